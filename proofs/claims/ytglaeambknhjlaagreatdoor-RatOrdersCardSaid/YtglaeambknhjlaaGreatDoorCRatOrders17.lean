/- Texts under the proof, joined by a program (prune.py): Q212, Q240, QFr4, QRefOps, QPairs, QRatC, QRatD, QComp, Q214, Q218, Q219, Q215. -/
import Derived.Test.YtglaeambknhjlaaGreatDoorCRatOrders13
import Derived.Test.YtglaeambknhjlaaGreatDoorCRatOrders16
import Derived.Test.YtglaeambknhjlaaGreatDoorCRatOrders12
import Derived.Test.YtglaeambknhjlaaGreatDoorCRatOrders14
import Derived.Test.YtglaeambknhjlaaGreatDoorCRatOrders11
import Derived.Test.YtglaeambknhjlaaGreatDoorCRatOrders09
set_option linter.unusedVariables false
set_option linter.unusedSimpArgs false
set_option exponentiation.threshold 20001
set_option maxHeartbeats 8000000
set_option maxRecDepth 100000
section
namespace Go.Proofs.ZQ
open Go.RowKit Go.Proofs.ZW.Wa Go.Proofs.ZW.Wb Go.Proofs.ZW.Wc
attribute [local go_sem] zaL zaJ zaS zaR zaC zaB zaK zaI
noncomputable def c2_Minus.f (a0_0:Bool) (a0_1:ByteArray) (a0_2:ByteArray):Option (Bool×ByteArray×ByteArray):=if a0_0=true then (some (false,a0_1,a0_2)) else (some ((a0_1.toList != ([48]:List UInt8)),a0_1,a0_2))
theorem c2_Minus.calls (a0_0:Bool) (a0_1:ByteArray) (a0_2:ByteArray) (r1:Bool) (r2:ByteArray) (r3:ByteArray) (w:World) (h:c2_Minus.f a0_0 a0_1 a0_2=some (r1,r2,r3)) :
  Calls Tryz.prog 62 #[.agg #[.bool a0_0,.string a0_1,.string a0_2]] w fun e w'=>e = .returned (.agg #[.bool r1,.string r2,.string r3])∧Below w.heap.size w w':=by
 have hu66:=Tryz.underlying66
 have HB:=Aside0.mk (Below.refl w.heap.size w)
 have H:(if a0_0=true then (some (false,a0_1,a0_2)) else (some ((a0_1.toList != ([48]:List UInt8)),a0_1,a0_2)))=some (r1,r2,r3):=h
 clear h
 by_cases c2:a0_0=true
 ·subst c2
  have H1:(some (false,a0_1,a0_2))=some (r1,r2,r3):=by rw [if_pos rfl] at H; exact H
  clear H
  have H:=H1
  clear H1
  simp only [Option.some.injEq,Prod.mk.injEq] at H
  obtain ⟨rfl,rfl,rfl⟩:=H
  go_enter Tryz.func62,Tryz.ntmps62
  go_wp2_with (first|((with_reducible refine zaD (N:=1) rfl ?_); refine zaH ?hg (N:=1) ?hd (cs:=#[.bool true,.string a0_1,.string a0_2]) (t:=66) ?hr ?_; (case hd=>rfl); (case hg=>rfl); (case hr=>first|(go_simp; done)|(go_simp; rfl)); intro gb798 hg w3 hbox hb; have n0_:=Aside0.mk (zak (by repeat (first|(with_reducible first|exact HB.out|apply zaa|apply zab|apply zac)|exact HB.out)) hb); have n1_:=Aside0.mk (hbox); have n2_:=Aside0.mk ((by rw [hg]; exact (zan (by repeat (first|(with_reducible first|exact HB.out|apply zaa|apply zab|apply zac)|exact HB.out))):w.heap.size≤gb798)); have n3_:=Aside0.mk ((by rw [hg]; exact (zan (by repeat (first|(with_reducible first|exact HB.out|apply zaa|apply zab|apply zac)|exact HB.out))):w.heap.size≤gb798)); clear HB; have HB:=n0_; have BK798:=n1_; have GW798:=n2_; have GE798:=n3_; clear n0_ n1_ n2_ n3_; clear hb hbox hg)|((with_reducible refine zaD (N:=2) rfl ?_); refine zaH ?hg (N:=2) ?hd (cs:=#[.bool false,.string (⟨#[]⟩:ByteArray),.string (⟨#[]⟩:ByteArray)]) (t:=66) ?hr ?_; (case hd=>rfl); (case hg=>rfl); (case hr=>first|(go_simp; done)|(go_simp; rfl)); intro gb799 hg w4 hbox hb; have n0_:=Aside0.mk (zaq (g:=gb798) (o:=.cells #[.bool true,.string a0_1,.string a0_2] 66 (0,0)) (by (with_reducible repeat (first|refine zah ?_ _|refine zaj ?_|refine zai ?_ _)); exact BK798.out) hb); have n1_:=Aside0.mk (zak (by repeat (first|(with_reducible first|exact HB.out|apply zaa|apply zab|apply zac|refine zag ?_ GE798.out)|exact HB.out)) hb); have n2_:=Aside0.mk (hbox); have n3_:=Aside0.mk ((by rw [hg]; exact (zan (by repeat (first|(with_reducible first|exact HB.out|apply zaa|apply zab|apply zac|refine zag ?_ GE798.out)|exact HB.out))):w.heap.size≤gb799)); have n4_:=Aside0.mk ((by rw [hg]; exact (zan (by repeat (first|(with_reducible first|exact HB.out|apply zaa|apply zab|apply zac|refine zag ?_ GE798.out)|exact HB.out))):w.heap.size≤gb799)); have n5_:=Aside0.mk ((by rw [hg]; exact Nat.ne_of_lt (zas (g:=gb798) (o:=.cells #[.bool true,.string a0_1,.string a0_2] 66 (0,0)) (by (with_reducible repeat (first|refine zah ?_ _|refine zaj ?_|refine zai ?_ _)); exact BK798.out)):gb798≠gb799)); have n6_:=Aside0.mk ((by rw [hg]; exact Nat.ne_of_gt (zas (g:=gb798) (o:=.cells #[.bool true,.string a0_1,.string a0_2] 66 (0,0)) (by (with_reducible repeat (first|refine zah ?_ _|refine zaj ?_|refine zai ?_ _)); exact BK798.out)):gb799≠gb798)); clear BK798; clear HB; have BK798:=n0_; have HB:=n1_; have BK799:=n2_; have GW799:=n3_; have GE799:=n4_; have NB798_799:=n5_; have NB799_798:=n6_; clear n0_ n1_ n2_ n3_ n4_ n5_ n6_; clear hb hbox hg; have hnb5:=NB798_799.out; have hnc5:=NB799_798.out; have hcz6_0:w4.cell? ⟨gb798,0,none⟩=some (.bool true):=(zaf BK798.out 0).trans rfl; have hcz6_1:w4.cell? ⟨gb798,1,none⟩=some (.string a0_1):=(zaf BK798.out 1).trans rfl; have hcz6_2:w4.cell? ⟨gb798,2,none⟩=some (.string a0_2):=(zaf BK798.out 2).trans rfl; have hfz6_0:=zad BK798.out 0; have hfz6_1:=zad BK798.out 1; have hfz6_2:=zad BK798.out 2; have hcz7_0:w4.cell? ⟨gb799,0,none⟩=some (.bool false):=(zaf BK799.out 0).trans rfl; have hcz7_1:w4.cell? ⟨gb799,1,none⟩=some (.string (⟨#[]⟩:ByteArray)):=(zaf BK799.out 1).trans rfl; have hcz7_2:w4.cell? ⟨gb799,2,none⟩=some (.string (⟨#[]⟩:ByteArray)):=(zaf BK799.out 2).trans rfl; have hfz7_0:=zad BK799.out 0; have hfz7_1:=zad BK799.out 1; have hfz7_2:=zad BK799.out 2))
  refine bodyPost_ret (results_cell_row rfl _ _ gb799 66 #[.bool false,.string a0_1,.string a0_2] (0,0) _ rfl (by (with_reducible repeat (first|refine zah ?_ _|refine zaj ?_|refine zai ?_ _)); refine zax (cs:=#[.bool false,.string a0_1,.string (⟨#[]⟩:ByteArray)]) ?_ 2 _ rfl; (with_reducible repeat (first|refine zah ?_ _|refine zaj ?_|refine zai ?_ _)); refine zax (cs:=#[.bool false,.string (⟨#[]⟩:ByteArray),.string (⟨#[]⟩:ByteArray)]) ?_ 1 _ rfl; (with_reducible repeat (first|refine zah ?_ _|refine zaj ?_|refine zai ?_ _)); refine zax (cs:=#[.bool false,.string (⟨#[]⟩:ByteArray),.string (⟨#[]⟩:ByteArray)]) ?_ 0 _ rfl; (with_reducible repeat (first|refine zah ?_ _|refine zaj ?_|refine zai ?_ _)); refine blk_far ?_ NB799_798.out _; (with_reducible repeat (first|refine zah ?_ _|refine zaj ?_|refine zai ?_ _)); exact BK799.out) Tryz.underlying66 rfl (by kernel_rfl)) rfl ?_
  exact ⟨by first|rfl|(simp [zam,zal]<;>rfl)|(simp [*,zam,zal]<;>rfl),by repeat (first|(with_reducible first|exact HB.out|apply zaa|apply zab|apply zac|refine zag ?_ GE798.out|refine zag ?_ GE799.out)|exact HB.out)⟩
 ·replace c2:=Bool.eq_false_iff.mpr c2
  subst c2
  have H1:(some ((a0_1.toList != ([48]:List UInt8)),a0_1,a0_2))=some (r1,r2,r3):=by rw [if_neg (show ¬ (false=true) by decide)] at H; exact H
  clear H
  have H:=H1
  clear H1
  simp only [Option.some.injEq,Prod.mk.injEq] at H
  obtain ⟨rfl,rfl,rfl⟩:=H
  go_enter Tryz.func62,Tryz.ntmps62
  go_wp2_with (first|((with_reducible refine zaD (N:=1) rfl ?_); refine zaH ?hg (N:=1) ?hd (cs:=#[.bool false,.string a0_1,.string a0_2]) (t:=66) ?hr ?_; (case hd=>rfl); (case hg=>rfl); (case hr=>first|(go_simp; done)|(go_simp; rfl)); intro gb798 hg w8 hbox hb; have n0_:=Aside0.mk (zak (by repeat (first|(with_reducible first|exact HB.out|apply zaa|apply zab|apply zac)|exact HB.out)) hb); have n1_:=Aside0.mk (hbox); have n2_:=Aside0.mk ((by rw [hg]; exact (zan (by repeat (first|(with_reducible first|exact HB.out|apply zaa|apply zab|apply zac)|exact HB.out))):w.heap.size≤gb798)); have n3_:=Aside0.mk ((by rw [hg]; exact (zan (by repeat (first|(with_reducible first|exact HB.out|apply zaa|apply zab|apply zac)|exact HB.out))):w.heap.size≤gb798)); clear HB; have HB:=n0_; have BK798:=n1_; have GW798:=n2_; have GE798:=n3_; clear n0_ n1_ n2_ n3_; clear hb hbox hg)|((with_reducible refine zaD (N:=2) rfl ?_); refine zaH ?hg (N:=2) ?hd (cs:=#[.bool false,.string (⟨#[]⟩:ByteArray),.string (⟨#[]⟩:ByteArray)]) (t:=66) ?hr ?_; (case hd=>rfl); (case hg=>rfl); (case hr=>first|(go_simp; done)|(go_simp; rfl)); intro gb799 hg w9 hbox hb; have n0_:=Aside0.mk (zaq (g:=gb798) (o:=.cells #[.bool false,.string a0_1,.string a0_2] 66 (0,0)) (by (with_reducible repeat (first|refine zah ?_ _|refine zaj ?_|refine zai ?_ _)); exact BK798.out) hb); have n1_:=Aside0.mk (zak (by repeat (first|(with_reducible first|exact HB.out|apply zaa|apply zab|apply zac|refine zag ?_ GE798.out)|exact HB.out)) hb); have n2_:=Aside0.mk (hbox); have n3_:=Aside0.mk ((by rw [hg]; exact (zan (by repeat (first|(with_reducible first|exact HB.out|apply zaa|apply zab|apply zac|refine zag ?_ GE798.out)|exact HB.out))):w.heap.size≤gb799)); have n4_:=Aside0.mk ((by rw [hg]; exact (zan (by repeat (first|(with_reducible first|exact HB.out|apply zaa|apply zab|apply zac|refine zag ?_ GE798.out)|exact HB.out))):w.heap.size≤gb799)); have n5_:=Aside0.mk ((by rw [hg]; exact Nat.ne_of_lt (zas (g:=gb798) (o:=.cells #[.bool false,.string a0_1,.string a0_2] 66 (0,0)) (by (with_reducible repeat (first|refine zah ?_ _|refine zaj ?_|refine zai ?_ _)); exact BK798.out)):gb798≠gb799)); have n6_:=Aside0.mk ((by rw [hg]; exact Nat.ne_of_gt (zas (g:=gb798) (o:=.cells #[.bool false,.string a0_1,.string a0_2] 66 (0,0)) (by (with_reducible repeat (first|refine zah ?_ _|refine zaj ?_|refine zai ?_ _)); exact BK798.out)):gb799≠gb798)); clear BK798; clear HB; have BK798:=n0_; have HB:=n1_; have BK799:=n2_; have GW799:=n3_; have GE799:=n4_; have NB798_799:=n5_; have NB799_798:=n6_; clear n0_ n1_ n2_ n3_ n4_ n5_ n6_; clear hb hbox hg; have hnb10:=NB798_799.out; have hnc10:=NB799_798.out; have hcz11_0:w9.cell? ⟨gb798,0,none⟩=some (.bool false):=(zaf BK798.out 0).trans rfl; have hcz11_1:w9.cell? ⟨gb798,1,none⟩=some (.string a0_1):=(zaf BK798.out 1).trans rfl; have hcz11_2:w9.cell? ⟨gb798,2,none⟩=some (.string a0_2):=(zaf BK798.out 2).trans rfl; have hfz11_0:=zad BK798.out 0; have hfz11_1:=zad BK798.out 1; have hfz11_2:=zad BK798.out 2; have hcz12_0:w9.cell? ⟨gb799,0,none⟩=some (.bool false):=(zaf BK799.out 0).trans rfl; have hcz12_1:w9.cell? ⟨gb799,1,none⟩=some (.string (⟨#[]⟩:ByteArray)):=(zaf BK799.out 1).trans rfl; have hcz12_2:w9.cell? ⟨gb799,2,none⟩=some (.string (⟨#[]⟩:ByteArray)):=(zaf BK799.out 2).trans rfl; have hfz12_0:=zad BK799.out 0; have hfz12_1:=zad BK799.out 1; have hfz12_2:=zad BK799.out 2))
  refine bodyPost_ret (results_cell_row rfl _ _ gb799 66 #[.bool (a0_1.toList != ([48]:List UInt8)),.string a0_1,.string a0_2] (0,0) _ rfl (by (with_reducible repeat (first|refine zah ?_ _|refine zaj ?_|refine zai ?_ _)); refine zax (cs:=#[.bool (a0_1.toList != ([48]:List UInt8)),.string a0_1,.string (⟨#[]⟩:ByteArray)]) ?_ 2 _ rfl; (with_reducible repeat (first|refine zah ?_ _|refine zaj ?_|refine zai ?_ _)); refine zax (cs:=#[.bool (a0_1.toList != ([48]:List UInt8)),.string (⟨#[]⟩:ByteArray),.string (⟨#[]⟩:ByteArray)]) ?_ 1 _ rfl; (with_reducible repeat (first|refine zah ?_ _|refine zaj ?_|refine zai ?_ _)); refine zax (cs:=#[.bool false,.string (⟨#[]⟩:ByteArray),.string (⟨#[]⟩:ByteArray)]) ?_ 0 _ rfl; (with_reducible repeat (first|refine zah ?_ _|refine zaj ?_|refine zai ?_ _)); refine blk_far ?_ NB799_798.out _; (with_reducible repeat (first|refine zah ?_ _|refine zaj ?_|refine zai ?_ _)); exact BK799.out) Tryz.underlying66 rfl (by kernel_rfl)) rfl ?_
  exact ⟨by first|rfl|(simp [zam,zal]<;>rfl)|(simp [*,zam,zal]<;>rfl),by repeat (first|(with_reducible first|exact HB.out|apply zaa|apply zab|apply zac|refine zag ?_ GE798.out|refine zag ?_ GE799.out)|exact HB.out)⟩
noncomputable def c2_Over.f (a0_0:Bool) (a0_1:ByteArray) (a0_2:ByteArray):Option (Bool×ByteArray×ByteArray):=some (a0_0,a0_2,a0_1)
end Go.Proofs.ZQ
end
section
namespace Go.Proofs.ZQ
open Go.RowKit Go.Proofs.ZW.Wa Go.Proofs.ZP
def Sz (k:Nat) (x:Rat):Prop:=(T x.num.natAbs).size≤k∧(T x.den).size≤k
theorem rr_sz {a b:ByteArray} {x:Rat} (h:RR a b x):Sz 600 x:=⟨(zaz (k:=600) (by decide)).2 h.ln,(zaz (k:=600) (by decide)).2 h.ld⟩
theorem sz_div {s:Bool} {a b k:Nat} (hb:0<b) (ha:(T a).size≤k) (hbs:(T b).size≤k):Sz k (Rat.divInt (sgn s a) b):=by
 obtain ⟨f1,f2,f3⟩:=zcK s a b hb
 refine ⟨?_,?_⟩
 ·rw [f1]; exact Nat.le_trans (za7 (Nat.div_le_self _ _)) ha
 ·rw [f2]; exact Nat.le_trans (za7 (Nat.div_le_self _ _)) hbs
theorem Plus_Fr {x y:Rat} {k:Nat} (hx:Sz k x) (hy:Sz k y) (hk:k≤1000000):c2_Plus.f (Fr x).1 (Fr x).2.1 (Fr x).2.2 (Fr y).1 (Fr y).2.1 (Fr y).2.2=some (Fr (x+y))∧Sz (2*k+1) (x+y):=by
 have hxd:=x.den_pos
 have hyd:=y.den_pos
 obtain ⟨hx1,hx2⟩:=hx
 obtain ⟨hy1,hy2⟩:=hy
 have hsum:x+y=Rat.divInt (sgn (decide (x.num<0)) (x.num.natAbs*y.den)+sgn (decide (y.num<0)) (y.num.natAbs*x.den)) ((x.den*y.den:Nat):Int):=by
  rw [zcX,←zcs,←zcs,zdh,zdh,Int.natCast_mul]
 rw [hsum]
 unfold c2_Plus.f
 show (c1_Times.f (T x.num.natAbs) (T y.den)).bind _=_∧_
 have m1:=zbk x.num.natAbs y.den
 have m2:=zbk y.num.natAbs x.den
 have m3:=zbk x.den y.den
 have hd:0<x.den*y.den:=Nat.mul_pos hxd hyd
 rw [zda (by omega) (by omega),Option.bind_some]
 show (c1_Times.f (T y.num.natAbs) (T x.den)).bind _=_∧_
 rw [zda (by omega) (by omega),Option.bind_some]
 show (c1_Times.f (T x.den) (T y.den)).bind _=_∧_
 rw [zda (by omega) (by omega),Option.bind_some]
 show (if (decide (x.num<0) == decide (y.num<0))=true then _ else _)=_∧_
 have e1:(Fr x).1=decide (x.num<0):=rfl
 have e2:(Fr y).1=decide (y.num<0):=rfl
 rw [e1,e2]
 generalize decide (x.num<0)=s
 generalize decide (y.num<0)=t
 generalize x.num.natAbs*y.den=A at *
 generalize y.num.natAbs*x.den=B at *
 generalize x.den*y.den=C at *
 have hadd:=zcZ A B (2*k) (by omega) (by omega)
 by_cases hst:s=t
 ·subst hst
  rw [if_pos (beq_self_eq_true s),Plus_T (by omega) (by omega),Option.bind_some,zcz s (A+B) C hd (by omega) (by omega),Option.bind_some,sgn_add_same]
  exact ⟨rfl,sz_div hd (by omega) (by omega)⟩
 ·rw [if_neg (fun e=>hst (beq_iff_eq.1 e)),Compare_T (by omega) (by omega),Option.bind_some]
  by_cases hle:B≤A
  ·have hc:cmpN A B≥0:=by unfold cmpN; split; omega; split<;>omega
   have h3:(T (A-B)).size≤(T A).size:=za7 (Nat.sub_le _ _)
   rw [if_pos hc,Minus_T (by omega) (by omega) hle,Option.bind_some,zcz s (A-B) C hd (by omega) (by omega),Option.bind_some,sgn_add_ge s t A B hst hle]
   exact ⟨rfl,sz_div hd (by omega) (by omega)⟩
  ·have hc:¬ cmpN A B≥0:=by unfold cmpN; rw [if_pos (by omega)]; decide
   have h3:(T (B-A)).size≤(T B).size:=za7 (Nat.sub_le _ _)
   rw [if_neg hc,Minus_T (by omega) (by omega) (by omega),Option.bind_some,zcz t (B-A) C hd (by omega) (by omega),Option.bind_some,sgn_add_lt s t A B hst (by omega)]
   exact ⟨rfl,sz_div hd (by omega) (by omega)⟩
theorem Minus_Fr (x:Rat):c2_Minus.f (Fr x).1 (Fr x).2.1 (Fr x).2.2=some (Fr (-x)):=by
 have e1:(-x).num = -x.num:=Rat.neg_num x
 have e2:(-x).den=x.den:=rfl
 unfold c2_Minus.f Fr
 rw [e1,e2,Int.natAbs_neg]
 show (if decide (x.num<0)=true then _ else _)=_
 by_cases h:x.num<0
 ·rw [if_pos (decide_eq_true h),decide_eq_false (show ¬ -x.num<0 by omega)]
 ·rw [if_neg (by simpa using h)]
  refine congrArg some ?_
  show ((T x.num.natAbs).toList != [48],T x.num.natAbs,T x.den)=_
  by_cases h0:x.num=0
  ·rw [h0]
   have:((T (0:Int).natAbs).toList != ([48]:List UInt8))=false:=by
    show ((T 0).toList != ([48]:List UInt8))=false
    rw [b48.2 rfl]; rfl
   rw [this]; rfl
  ·rw [decide_eq_true (show -x.num<0 by omega),bne_iff_ne.2 (fun e=>h0 (by have:=T_inj (b48.1 e); omega))]
theorem core_no {a b:ByteArray} (h:¬ ∃ x,RR a b x):coreB (spl a).1 (spl a).2 b=false:=by
 cases hc:coreB (spl a).1 (spl a).2 b
 ·rfl
 ·exact absurd ((core_iff a b).1 hc) h
theorem right_yes {a b:ByteArray} {x:Rat} (h:RR a b x):Ev (fun k=>c2_Right.f k a b) true:=by
 have:=right_ev a b
 rwa [(core_iff a b).2 ⟨x,h⟩] at this
theorem right_no {a b:ByteArray} (h:¬ ∃ x,RR a b x):Ev (fun k=>c2_Right.f k a b) false:=by
 have:=right_ev a b
 rwa [core_no h] at this
theorem tell_ok (x:Rat):tell 0 x=toldR x:=if_pos rfl
theorem neg_sz {x:Rat} {k:Nat} (h:Sz k x):Sz k (-x):=by
 unfold Sz at *
 rw [Rat.neg_num,Int.natAbs_neg]; exact h
end Go.Proofs.ZQ
end
section
namespace Go.Proofs.ZQ
open Go.RowKit Go.Proofs.ZW.Wa Go.Proofs.ZP Go.Proofs.ZW.Wb Go.Proofs.ZW.Wc
def RbAt (w:World) (b:Nat) (x y:ByteArray):Prop:=w.heap[b]? = some (.cells #[.string x,.string y] 23 (0,0))
theorem RbAt.c0 {w:World} {b:Nat} {x y:ByteArray} (h:RbAt w b x y):w.cell? ⟨b,0,none⟩=some (.string x):=(zaf h 0).trans rfl
theorem RbAt.c1 {w:World} {b:Nat} {x y:ByteArray} (h:RbAt w b x y):w.cell? ⟨b,1,none⟩=some (.string y):=(zaf h 1).trans rfl
theorem RbAt.below {w w':World} {b:Nat} {x y:ByteArray} (h:RbAt w b x y) (hb:Below w.heap.size w w'):RbAt w' b x y:=(hb.block _ (zas h)).trans h
theorem RbAt.keep {w w':World} {b n:Nat} {x y:ByteArray} (h:RbAt w b x y) (hb:Below n w w') (hn:b<n):RbAt w' b x y:=(hb.block _ hn).trans h
theorem RbAt.new (w:World) (x y:ByteArray):RbAt (w.alloc (.cells #[.string x,.string y] 23)) w.heap.size x y:=zay w _
theorem RbAt.alloc {w:World} {b:Nat} {x y:ByteArray} (h:RbAt w b x y) (o:Obj):RbAt (w.alloc o) b x y:=h.below (zaa (Below.refl _ _) _)
theorem rb_put {w w2:World} {D:Nat} {x y:ByteArray} (f:RbAt w2 D x y) (hb:Below w.heap.size w w2) (hD:w.heap.size≤D) (u v:ByteArray):RbAt ((w2.setCell ⟨D,0,none⟩ (.string u)).setCell ⟨D,1,none⟩ (.string v)) D u v∧Below w.heap.size w ((w2.setCell ⟨D,0,none⟩ (.string u)).setCell ⟨D,1,none⟩ (.string v)):=
 ⟨(zau (zau f 0 (.string u)) 1 (.string v)).trans rfl,zag (zag hb hD) hD⟩
theorem zcQ {w2:World} {D b:Nat} {x y:ByteArray} (f:RbAt w2 b x y) (h:b≠D) (u v:Value):RbAt ((w2.setCell ⟨D,0,none⟩ u).setCell ⟨D,1,none⟩ v) b x y:=by
 have k:=(Below.heap_setCell (w2.setCell ⟨D,0,none⟩ u) ⟨D,1,none⟩ v b h).trans (Below.heap_setCell w2 ⟨D,0,none⟩ u b h)
 exact k.trans f
theorem rb_two (w:World) (a b c d:ByteArray):RbAt ((w.alloc (.cells #[.string a,.string b] 23)).alloc (.cells #[.string c,.string d] 23)) w.heap.size a b ∧
  RbAt ((w.alloc (.cells #[.string a,.string b] 23)).alloc (.cells #[.string c,.string d] 23)) (w.heap.size+1) c d ∧
  Below w.heap.size w ((w.alloc (.cells #[.string a,.string b] 23)).alloc (.cells #[.string c,.string d] 23)):=by
 refine ⟨(RbAt.new w a b).alloc _,?_,zaa (zaa (Below.refl _ _) _) _⟩
 have h:=RbAt.new (w.alloc (.cells #[.string a,.string b] 23)) c d
 rw [World.size_alloc] at h
 exact h
def Ans (f:FuncId) (args:Array Value) (v:Value):Prop:=∀ W:World,Calls Tryz.prog f args W fun e w'=>e = .returned v∧Below W.heap.size W w'
theorem zbd {a b:ByteArray} {x:Rat} (h:RR a b x):Ans 36 #[.agg #[.string a,.string b]] (.bool true):=fun W=>by
 obtain ⟨k,hk⟩:=(right_yes h).rounds
 exact c2_Right.calls k a b true W hk
theorem zbp {a b:ByteArray} (h:¬ ∃ x,RR a b x):Ans 36 #[.agg #[.string a,.string b]] (.bool false):=fun W=>by
 obtain ⟨k,hk⟩:=(right_no h).rounds
 exact c2_Right.calls k a b false W hk
def FrV (x:Rat):Value:=.agg #[.bool (Fr x).1,.string (Fr x).2.1,.string (Fr x).2.2]
theorem read_ans {a b:ByteArray} {x:Rat} (h:RR a b x):Ans 61 #[.agg #[.string a,.string b]] (FrV x):=fun W=>by
 obtain ⟨k,hk⟩:=(read_ev a b x h).rounds
 exact c2_Read.calls k a b _ _ _ W hk
theorem told_ans (x:Rat):Ans 110 #[FrV x] (.tuple #[.agg #[.string (toldR x).1,.string (toldR x).2.1],.int .i64 (toldR x).2.2]):=fun W=>by
 obtain ⟨k,hk⟩:=(told_ev x).rounds
 exact c2_Told.calls k _ _ _ _ _ _ W hk
end Go.Proofs.ZQ
end
section
namespace Go.Proofs.ZQ
open Go.RowKit Go.Proofs.ZW.Wa Go.Proofs.ZP
structure St4 (w W:World) (A B X Y:Nat) (a0 a1 b0 b1 x0 x1 y0 y1:ByteArray):Prop where
 a:RbAt W A a0 a1
 b:RbAt W B b0 b1
 x:RbAt W X x0 x1
 y:RbAt W Y y0 y1
 hb:Below w.heap.size w W
 d:w.heap.size≤X∧A<X∧B<X∧X<Y
theorem St4.call {w W W':World} {A B X Y:Nat} {a0 a1 b0 b1 x0 x1 y0 y1:ByteArray} (h:St4 w W A B X Y a0 a1 b0 b1 x0 x1 y0 y1) (k:Below W.heap.size W W'):St4 w W' A B X Y a0 a1 b0 b1 x0 x1 y0 y1:=
 ⟨h.a.below k,h.b.below k,h.x.below k,h.y.below k,bthen h.hb k,h.d⟩
theorem St4.putX {w W:World} {A B X Y:Nat} {a0 a1 b0 b1 x0 x1 y0 y1:ByteArray} (h:St4 w W A B X Y a0 a1 b0 b1 x0 x1 y0 y1) (u v:ByteArray):St4 w ((W.setCell ⟨X,0,none⟩ (.string u)).setCell ⟨X,1,none⟩ (.string v)) A B X Y a0 a1 b0 b1 u v y0 y1:=by
 obtain ⟨d1,d2,d3,d4⟩:=h.d
 obtain ⟨k1,k2⟩:=rb_put h.x h.hb d1 u v
 exact ⟨zcQ h.a (by omega) _ _,zcQ h.b (by omega) _ _,k1,zcQ h.y (by omega) _ _,k2,h.d⟩
theorem St4.putY {w W:World} {A B X Y:Nat} {a0 a1 b0 b1 x0 x1 y0 y1:ByteArray} (h:St4 w W A B X Y a0 a1 b0 b1 x0 x1 y0 y1) (u v:ByteArray):St4 w ((W.setCell ⟨Y,0,none⟩ (.string u)).setCell ⟨Y,1,none⟩ (.string v)) A B X Y a0 a1 b0 b1 x0 x1 u v:=by
 obtain ⟨d1,d2,d3,d4⟩:=h.d
 obtain ⟨k1,k2⟩:=rb_put h.y h.hb (by omega) u v
 exact ⟨zcQ h.a (by omega) _ _,zcQ h.b (by omega) _ _,zcQ h.x (by omega) _ _,k1,k2,h.d⟩
theorem oneF_some (why:Rat→Int) (op:Rat→Rat) (a0 a1:ByteArray):∃ r1 r2 r3,oneF why op a0 a1=some (r1,r2,r3):=by
 by_cases h:∃ x,RR a0 a1 x
 ·obtain ⟨x,hx⟩:=h
  exact ⟨_,_,_,zdr hx⟩
 ·exact ⟨_,_,_,oneF_no h⟩
theorem cmp_start (w:World) (a0 a1 b0 b1:ByteArray):RowR (((w.alloc (.cells #[.string a0,.string a1] 23)).alloc (.cells #[.string b0,.string b1] 23)).alloc (.cells #[.string a0,.string a1,.string b0,.string b1] 23)) (some ⟨w.heap.size+1+1,0,none⟩) [(a0,a1),(b0,b1)] ∧
  Below w.heap.size w (((w.alloc (.cells #[.string a0,.string a1] 23)).alloc (.cells #[.string b0,.string b1] 23)).alloc (.cells #[.string a0,.string a1,.string b0,.string b1] 23)):=by
 have h1:=row2 ((w.alloc (.cells #[.string a0,.string a1] 23)).alloc (.cells #[.string b0,.string b1] 23)) a0 a1 b0 b1
 simp only [World.size_alloc] at h1
 exact ⟨h1,zaa (zaa (zaa (Below.refl _ _) _) _) _⟩
def cmpR (x y:Rat):Int:=(x.num*y.den-y.num*x.den).sign
theorem cmp_no (a0 a1 b0 b1:ByteArray) (w:World) (h:¬ ((∃ x,RR a0 a1 x)∧∃ y,RR b0 b1 y)) :
  Calls Tryz.prog 43 #[.agg #[.string a0,.string a1],.agg #[.string b0,.string b1]] w fun e w'=>e = .returned (.tuple #[.int .i64 0,.int .i64 3])∧Below w.heap.size w w':=by
 have HA:∀ (A:Option Addr) (c:Nat) (W:World),RowR W A [(a0,a1),(b0,b1)]→Calls Tryz.prog 119 #[.slice A 2 c] W fun e w'=>e = .returned (.slice none 0 0)∧Below W.heap.size W w':=fun A c W hr=>by
  obtain ⟨X,hX|⟨m,hm,h1,h2⟩⟩:=rr_all [(a0,a1),(b0,b1)]
  ·exact absurd ⟨⟨_,hX 0 (by simp)⟩,⟨_,hX 1 (by simp)⟩⟩ h
  ·exact all_no A c [(a0,a1),(b0,b1)] X m W hr (by simp) hm h1 h2
 clear h
 go_enter Tryz.func43,Tryz.ntmps43
 obtain ⟨hrow,hba⟩:=cmp_start w a0 a1 b0 b1
 have hnil:=fun (W:World) (a:Option Addr) (n c:Nat)=>Lib.run_eql_slice_nil (P:=Tryz.prog) W 120 82 a n c 0 0 Tryz.underlying120
 go_wp2_with fail
 generalize (((w.alloc (.cells #[.string a0,.string a1] 23)).alloc (.cells #[.string b0,.string b1] 23)).alloc (.cells #[.string a0,.string a1,.string b0,.string b1] 23))=W0 at *
 generalize w.heap.size+1+1=L at *
 refine (HA _ _ _ hrow).mono ?_
 rintro e w1 ⟨rfl,hb1⟩
 have hB2:=bthen hba hb1
 go_wp2
 go_ret2
 exact ⟨rfl,hB2⟩
theorem cmp_yes (a0 a1 b0 b1:ByteArray) (x y:Rat) (w:World) (hx:RR a0 a1 x) (hy:RR b0 b1 y) :
  Calls Tryz.prog 43 #[.agg #[.string a0,.string a1],.agg #[.string b0,.string b1]] w fun e w'=>e = .returned (.tuple #[.int .i64 (cmpR x y),.int .i64 0])∧Below w.heap.size w w':=by
 have HA:∀ (A:Option Addr) (c:Nat) (W:World),RowR W A [(a0,a1),(b0,b1)]→Calls Tryz.prog 119 #[.slice A 2 c] W fun e w'=>∃ (g:Nat) (ds:List Nat),e = .returned (.slice (some ⟨g,0,none⟩) 2 2)∧ds.length=2∧Hid (ASt W w' g 2 (fun j=>if j=0 then x else y) ds):=fun A c W hr=>by
  exact all_yes A c [(a0,a1),(b0,b1)] (fun j=>if j=0 then x else y) W hr (by simp) (fun j hj=>by
   rcases j with _|_|j
   ·exact hx
   ·exact hy
   ·simp at hj; omega)
 have HBX:=Lib.hid hx.bd
 have HBY:=Lib.hid hy.bd
 clear hx hy
 go_enter Tryz.func43,Tryz.ntmps43
 obtain ⟨hrow,hba⟩:=cmp_start w a0 a1 b0 b1
 have hnil:=fun (W:World) (a:Option Addr) (n c:Nat)=>Lib.run_eql_slice_nil (P:=Tryz.prog) W 120 82 a n c 0 0 Tryz.underlying120
 go_wp2_with fail
 generalize (((w.alloc (.cells #[.string a0,.string a1] 23)).alloc (.cells #[.string b0,.string b1] 23)).alloc (.cells #[.string a0,.string a1,.string b0,.string b1] 23))=W0 at *
 generalize w.heap.size+1+1=L at *
 refine (HA _ _ _ hrow).mono ?_
 rintro e w1 ⟨g,ds,rfl,hdl,HS⟩
 obtain ⟨d0,d1,rfl⟩:∃ d0 d1,ds = [d0,d1]:=by
  rcases ds with _|⟨d0,_|⟨d1,_|⟨d2,t⟩⟩⟩
  ·simp at hdl
  ·simp at hdl
  ·exact ⟨d0,d1,rfl⟩
  ·simp at hdl
 obtain ⟨p1,p2,p3⟩:=HS.out.at_ 0 (by simp)
 obtain ⟨q1,q2,q3⟩:=HS.out.at_ 1 (by simp)
 simp only [List.getElem_cons_zero,List.getElem_cons_succ,if_true,if_false,Nat.one_ne_zero] at p1 p2 p3 q1 q2 q3
 have hblk:=HS.out.blk
 have hB1:=bthen hba HS.out.below
 have c0:=(zaf hblk 0).trans (show _=some (Value.pointer (some ⟨d0,0,none⟩)) from rfl)
 have c1:=(zaf hblk 1).trans (show _=some (Value.pointer (some ⟨d1,0,none⟩)) from rfl)
 clear hdl hrow hba hblk p1 p2 q1 q2
 go_wp2_with fail
 go_still_tail 6,(by kernel_rfl)
 change wpList _ _ _ _ _ w1.drew
 have hbd:=zae w1
 have hx3:=p3.below hbd
 have hy3:=q3.below hbd
 have hB3:=bthen hB1 hbd
 clear p3 q3 hB1 hbd c0 c1 HS
 generalize w1.drew=w3 at *
 go_wp2_with fail
 refine (rcmp_calls _ _ x y w3 hx3 hy3 HBX.out HBY.out (by decide)).mono ?_
 rintro e w4 ⟨rfl,hb4⟩
 have hB4:=bthen hB3 hb4
 clear hx3 hy3 hB3 hb4 HA hnil HBX HBY
 generalize hc:(x.num*y.den-y.num*x.den).sign=c
 have HC:=Lib.hid (show cmpR x y=c from hc)
 clear hc
 go_wp2
 go_ret2
 exact ⟨by rw [HC.out]; rfl,hB4⟩
noncomputable def rat_Cmp.f (a0_0 a0_1 a1_0 a1_1:ByteArray):Option (Int×Int):=by
 classical exact if h:(∃ x,RR a0_0 a0_1 x)∧∃ y,RR a1_0 a1_1 y then some (cmpR h.1.choose h.2.choose,0) else some (0,3)
theorem zc5 {a0 a1 b0 b1:ByteArray} {x y:Rat} (hx:RR a0 a1 x) (hy:RR b0 b1 y):rat_Cmp.f a0 a1 b0 b1=some (cmpR x y,0):=by
 have h:(∃ x,RR a0 a1 x)∧∃ y,RR b0 b1 y:=⟨⟨x,hx⟩,⟨y,hy⟩⟩
 unfold rat_Cmp.f
 rw [dif_pos h,←rr_one hx h.1.choose_spec,←rr_one hy h.2.choose_spec]
theorem zcR {a0 a1 b0 b1:ByteArray} (h:¬ ((∃ x,RR a0 a1 x)∧∃ y,RR b0 b1 y)):rat_Cmp.f a0 a1 b0 b1=some (0,3):=by
 unfold rat_Cmp.f
 rw [dif_neg h]
theorem rat_Cmp.calls (a0 a1 b0 b1:ByteArray) (r1 r2:Int) (w:World) (h:rat_Cmp.f a0 a1 b0 b1=some (r1,r2)) :
  Calls Tryz.prog 43 #[.agg #[.string a0,.string a1],.agg #[.string b0,.string b1]] w fun e w'=>e = .returned (.tuple #[.int .i64 r1,.int .i64 r2])∧Below w.heap.size w w':=by
 by_cases hh:(∃ x,RR a0 a1 x)∧∃ y,RR b0 b1 y
 ·obtain ⟨⟨x,hx⟩,⟨y,hy⟩⟩:=hh
  rw [zc5 hx hy] at h
  obtain ⟨rfl,rfl⟩:=Prod.mk.inj (Option.some.inj h)
  exact cmp_yes a0 a1 b0 b1 x y w hx hy
 ·rw [zcR hh] at h
  obtain ⟨rfl,rfl⟩:=Prod.mk.inj (Option.some.inj h)
  exact cmp_no a0 a1 b0 b1 w hh
theorem Floor_do (w:World) (x:Rat) (hsx:Bdr 2000 x):OneDo 133 #[] w x 0 ((x.floor:Int):Rat):=by
 intro W z gx hb h1 h2 n1 hz hx
 have HF:=Lib.hid (floor_calls gx x W hx hsx (by decide))
 have HC:=fun (w':World) (D:Nat) (h:IntAt w' D 0 x.floor) (hb:Below W.heap.size W w')=>zaO z D 0 x.floor w' (hz.slot.below hb) h (bd_floor hsx) (by decide)
 have HZ:=Lib.hid (show W.heap.size≥z+1 from hz.lt)
 change Calls Tryz.prog 133 #[.pointer (some ⟨z,0,none⟩),.pointer (some ⟨gx,0,none⟩)] W _
 clear hz hx hsx hb h1 h2 n1
 go_enter Tryz.func133,Tryz.ntmps133
 go_wp2_with fail
 refine HF.out.mono ?_
 rintro e w1 ⟨D,rfl,hD,hi,hb1⟩
 go_wp2_with fail
 refine (HC _ D hi hb1).mono ?_
 rintro e w2 ⟨rfl,hr,hu⟩
 have HR:=Lib.hid hr
 have HU:=Lib.hid (hu.lift hb1)
 clear hr hu HC HF hi hb1 hD
 go_wp2
 go_ret
 exact ⟨rfl,fun _=>HR.out,HU.out.keepB⟩
theorem Floor_wrap (a0 a1:ByteArray) (w:World) (tt:ByteArray×ByteArray×Int) (hd:∀ W:World,Below w.heap.size w W→Says 132 #[.agg #[.string a0,.string a1],.func (.func 133) #[] #[]] W tt):Says 53 #[.agg #[.string a0,.string a1]] w tt:=by
 have HD:=Lib.hid hd
 clear hd
 unfold Says
 go_enter Tryz.func53,Tryz.ntmps53
 obtain ⟨hbk,hba⟩:=start1 w a0 a1
 go_wp2_with fail
 generalize ((w.alloc (.cells #[.string a0,.string a1] 23)).alloc (.cells #[.string ⟨#[]⟩,.string ⟨#[]⟩] 23))=W0 at *
 generalize hBe:w.heap.size+1=B0 at *
 have HBE:=Lib.hid (show w.heap.size≤B0 by omega)
 clear hBe
 refine (HD.out _ hba).mono ?_
 rintro e w1 ⟨rfl,hb1⟩
 have hbk5:=(hb1.block _ (zas hbk)).trans hbk
 have hB5:=bthen hba hb1
 have cB0:=(zaf hbk5 0).trans (show _=some (Value.string ⟨#[]⟩) from rfl)
 have cB1:=(zaf hbk5 1).trans (show _=some (Value.string ⟨#[]⟩) from rfl)
 have fB0:=zad hbk5 0
 have fB1:=zad hbk5 1
 have hs1:=zau hbk5 0 (.string tt.1)
 have hs2:=zau hs1 1 (.string tt.2.1)
 have HS2:=Lib.hid (hs2.trans (show _=some (Obj.cells #[.string tt.1,.string tt.2.1] 23 (0,0)) from rfl))
 have HBF:=Lib.hid (zag (zag (g:=B0) (j:=0) (v:=.string tt.1) hB5 HBE.out) (j:=1) (v:=.string tt.2.1) (g:=B0) HBE.out)
 clear hs1 hs2 hbk hbk5 hba hb1 HD
 go_wp2
 refine bodyPost_ret (zaM rfl _ _ B0 23 #[.string tt.1,.string tt.2.1] (0,0) _ rfl HS2.out Tryz.underlying23 rfl (by kernel_rfl)) rfl ?_
 exact ⟨rfl,HBF.out⟩
noncomputable def rat_Floor.f (a0_0 a0_1:ByteArray):Option (ByteArray×ByteArray×Int):=oneF (fun x=>0) (fun x=>((x.floor:Int):Rat)) a0_0 a0_1
theorem rat_Floor.calls (a0 a1:ByteArray) (r1 r2:ByteArray) (r3:Int) (w:World) (h:rat_Floor.f a0 a1=some (r1,r2,r3)) :
  Calls Tryz.prog 53 #[.agg #[.string a0,.string a1]] w fun e w'=>e = .returned (.tuple #[.agg #[.string r1,.string r2],.int .i64 r3])∧Below w.heap.size w w':=by
 refine Floor_wrap a0 a1 w (r1,r2,r3) (fun W _ => ?_)
 unfold rat_Floor.f at h
 by_cases hh:∃ x,RR a0 a1 x
 ·obtain ⟨x,hx⟩:=hh
  rw [zdr hx] at h
  rw [←Option.some.inj h]
  exact one_yes a0 a1 x 133 #[] (0) (((x.floor:Int):Rat)) W (enters_of Tryz.func133 (by kernel_rfl) rfl) hx (Floor_do W x hx.bd) (fun hw=>(Bdr.int (bd_floor hx.bd) (by decide)).mono (by decide)) (n:=5000) (by decide)
 ·rw [oneF_no hh] at h
  rw [←Option.some.inj h]
  exact one_no a0 a1 133 #[] W hh
end Go.Proofs.ZQ
end
section
namespace Go.Proofs.ZQ
open Go.RowKit Go.Proofs.ZW.Wa Go.Proofs.ZP Go.Proofs.ZW.Wb Go.Proofs.ZW.Wc
noncomputable def c2_Compare.f (a0_0:Bool) (a0_1:ByteArray) (a0_2:ByteArray) (a1_0:Bool) (a1_1:ByteArray) (a1_2:ByteArray):Option (Int):=(c2_Minus.f a1_0 a1_1 a1_2).bind fun bt821=>((c2_Plus.f a0_0 a0_1 a0_2 bt821.1 bt821.2.1 bt821.2.2).bind fun bt824=>(if bt824.2.1.toList=([48]:List UInt8) then (some 0) else (if bt824.1=true then (some (-1)) else (some 1))))
theorem c2_Compare.calls (a0_0:Bool) (a0_1:ByteArray) (a0_2:ByteArray) (a1_0:Bool) (a1_1:ByteArray) (a1_2:ByteArray) (r:Int) (w:World) (h:c2_Compare.f a0_0 a0_1 a0_2 a1_0 a1_1 a1_2=some r) :
  Calls Tryz.prog 63 #[.agg #[.bool a0_0,.string a0_1,.string a0_2],.agg #[.bool a1_0,.string a1_1,.string a1_2]] w fun e w'=>e = .returned (.int .i64 r)∧Below w.heap.size w w':=by
 unfold c2_Compare.f at h
 obtain ⟨⟨m0,m1,m2⟩,hm,h2⟩:=Option.bind_eq_some_iff.1 h
 obtain ⟨⟨d0,d1,d2⟩,hd,h3⟩:=Option.bind_eq_some_iff.1 h2
 have HM:=Lib.hid (fun W=>c2_Minus.calls a1_0 a1_1 a1_2 m0 m1 m2 W hm)
 have HP:=Lib.hid (fun W=>c2_Plus.calls a0_0 a0_1 a0_2 m0 m1 m2 d0 d1 d2 W hd)
 have H:Hid ((if d1.toList=([48]:List UInt8) then (some 0) else (if d0=true then (some (-1)) else (some 1)))=some r):=Lib.hid h3
 clear h h2 h3 hm hd
 go_enter Tryz.func63,Tryz.ntmps63
 obtain ⟨fa,fb,hba⟩:=fr_two w a0_0 a1_0 a0_1 a0_2 a1_1 a1_2
 go_wp2_with fail
 generalize ((w.alloc (.cells #[.bool a0_0,.string a0_1,.string a0_2] 66)).alloc (.cells #[.bool a1_0,.string a1_1,.string a1_2] 66))=W0 at *
 generalize hBx:w.heap.size+1=X0 at *
 have HK:=Lib.hid (show ∀ W':World,Below W0.heap.size W0 W'→W'.cell? ⟨w.heap.size,0,none⟩=some (.bool a0_0)∧W'.cell? ⟨w.heap.size,1,none⟩=some (.string a0_1)∧W'.cell? ⟨w.heap.size,2,none⟩=some (.string a0_2)∧W'.cell? ⟨X0,0,none⟩=some (.bool a1_0)∧W'.cell? ⟨X0,1,none⟩=some (.string a1_1)∧W'.cell? ⟨X0,2,none⟩=some (.string a1_2) from fun W' h=>⟨(fa.below h).c0,(fa.below h).c1,(fa.below h).c2,(fb.below h).c0,(fb.below h).c1,(fb.below h).c2⟩)
 have HLT:=Lib.hid (show w.heap.size<W0.heap.size∧X0<W0.heap.size from ⟨zas fa,zas fb⟩)
 have HQS:=Lib.hid (show ∀ (W':World) (D:Nat) (u v t:Value),W0.heap.size≤D→Below W0.heap.size W0 W'→(fun w':World=>w'.cell? ⟨w.heap.size,0,none⟩=some (.bool a0_0)∧w'.cell? ⟨w.heap.size,1,none⟩=some (.string a0_1)∧w'.cell? ⟨w.heap.size,2,none⟩=some (.string a0_2)∧w'.cell? ⟨X0,0,none⟩=some (.bool a1_0)∧w'.cell? ⟨X0,1,none⟩=some (.string a1_1)∧w'.cell? ⟨X0,2,none⟩=some (.string a1_2)) (((W'.setCell ⟨D,0,none⟩ u).setCell ⟨D,1,none⟩ v).setCell ⟨D,2,none⟩ t) from fun W' D u v t hD h=>HK.out _ (Below.setCell (p:=⟨D,2,none⟩) (Below.setCell (p:=⟨D,1,none⟩) (Below.setCell (p:=⟨D,0,none⟩) h hD u) hD v) hD t))
 dsimp only at HQS
 clear hBx fa fb
 have HBA:=Lib.hid hba
 clear hba
 go_region_held3 (fun w'=>w'.cell? ⟨w.heap.size,0,none⟩=some (.bool a0_0)∧w'.cell? ⟨w.heap.size,1,none⟩=some (.string a0_1)∧w'.cell? ⟨w.heap.size,2,none⟩=some (.string a0_2)∧w'.cell? ⟨X0,0,none⟩=some (.bool a1_0)∧w'.cell? ⟨X0,1,none⟩=some (.string a1_1)∧w'.cell? ⟨X0,2,none⟩=some (.string a1_2))
  (first|((with_reducible refine HQS.out _ _ _ _ _ ?_ ?_); (first|exact hZ|exact Nat.le_trans hb1.size hb2.size); repeat (with_reducible first|exact Below.refl _ _|apply zao|apply zab|apply zaa|refine bthen ?_ hb2|refine bthen ?_ hb1))|(with_reducible refine HK.out _ ?_; repeat (with_reducible first|exact Below.refl _ _|apply zao|apply zab|apply zaa|refine bthen ?_ hb2|refine bthen ?_ hb1)))
  ((first
   | (go_simp; go_at_call 62; (with_reducible change Calls _ _ #[.agg #[.bool a1_0,.string a1_1,.string a1_2]] _ _); refine (HM.out _).mono ?_; rintro e w1 ⟨rfl,hb1⟩)
   | (go_simp; go_at_call 60; (with_reducible change Calls _ _ #[.agg #[.bool a0_0,.string a0_1,.string a0_2],.agg #[.bool m0,.string m1,.string m2]] _ _); refine (HP.out _).mono ?_; rintro e w2 ⟨rfl,hb2⟩; first|(have f2:=(FrAt.new w1 false ⟨#[]⟩ ⟨#[]⟩).below hb2; have hZ:=hb1.size; have c0:=f2.c0; have c1:=f2.c1; have c2:=f2.c2; have g0:=zad f2 0; have g1:=zad f2 1; have g2:=zad f2 2)|(have f2:FrAt w2 W0.heap.size false ⟨#[]⟩ ⟨#[]⟩:=((FrAt.new W0.drew false ⟨#[]⟩ ⟨#[]⟩).below hb1).below hb2; have hZ:=Nat.le_refl W0.heap.size; have c0:=f2.c0; have c1:=f2.c1; have c2:=f2.c2; have g0:=zad f2 0; have g1:=zad f2 1; have g2:=zad f2 2)|skip)))
 all_goals
  rename_i hHeld
  clear hHeld HK HQS HM HP
  have hB2:Below W0.heap.size W0 w2:=by repeat (with_reducible first|exact Below.refl _ _|apply zao|apply zab|apply zaa|refine bthen ?_ hb2|refine bthen ?_ hb1)
  have hD2:=HBA.out.size
  have h:=H.out
  first
  | (obtain ⟨hF,hBF⟩:=fr_put f2 (bthen HBA.out hB2) (Nat.le_trans hD2 hZ) d0 d1 d2; clear f2 hZ c0 c1 c2 g0 g1 g2; generalize World.setCell _ _ _=wF at hF hBF ⊢)
  | (have hF:=FrAt.new w2 d0 d1 d2; have hBF:=zaa (bthen HBA.out hB2) (.cells #[.bool d0,.string d1,.string d2] 66); generalize World.alloc _ _=wF at hF hBF ⊢)
  clear hB2 hD2 hb1 hb2 H HBA HLT
  have q0:=hF.c0
  have q1:=hF.c1
  clear hF
  have HBF:=Lib.hid hBF
  clear hBF
  by_cases h0:d1.toList=([48]:List UInt8)
  ·cases (if_pos h0).symm.trans h
   go_wp2
   go_ret
   exact ⟨rfl,HBF.out⟩
  ·have h:=(if_neg h0).symm.trans h
   have h0b:(d1.toList == ([48]:List UInt8))=false:=by simpa using h0
   cases d0
   ·cases (if_neg (by decide)).symm.trans h
    go_wp2
    go_ret
    exact ⟨rfl,HBF.out⟩
   ·cases (if_pos rfl).symm.trans h
    go_wp2
    go_ret
    exact ⟨rfl,HBF.out⟩
end Go.Proofs.ZQ
end
section
namespace Go.Proofs.ZQ
open Go.RowKit Go.Proofs.ZW.Wa Go.Proofs.ZW.Wb Go.Proofs.ZW.Wc
attribute [local go_sem] zaL zaJ zaS zaR zaC zaB zaK zaI
noncomputable def c2_Cmp.j0:Nat→Bool→ByteArray→ByteArray→ByteArray→ByteArray→Option (Int×Int)
 | 0,_,_,_,_,_=>none
 | k+1,x13,x801000,x801001,x802000,x802001=>if x13=true then (some (0,3)) else ((c2_Read.f k x801000 x801001).bind fun bt804=>((c2_Read.f k x802000 x802001).bind fun bt807=>((c2_Compare.f bt804.1 bt804.2.1 bt804.2.2 bt807.1 bt807.2.1 bt807.2.2).bind fun t810=>(some (t810,0)))))
noncomputable def c2_Cmp.f (k:Nat) (a0_0:ByteArray) (a0_1:ByteArray) (a1_0:ByteArray) (a1_1:ByteArray):Option (Int×Int):=(c2_Right.f k a0_0 a0_1).bind fun t802=>(if t802=true then ((c2_Right.f k a1_0 a1_1).bind fun t803=>(c2_Cmp.j0 k (!t803) a0_0 a0_1 a1_0 a1_1)) else (c2_Cmp.j0 k true a0_0 a0_1 a1_0 a1_1))
noncomputable def c2_Down.j0:Nat→ByteArray→Bool→Bool→ByteArray→ByteArray→Option (Bool×ByteArray×ByteArray)
 | 0,_,_,_,_,_=>none
 | k+1,x3,x18,x817000,x817001,x817002=>if x18=true then ((c1_Plus.f x3 (⟨#[49]⟩:ByteArray)).bind fun t820=>((c2_Lowest.f x817000 t820 (⟨#[49]⟩:ByteArray)).bind fun bt821=>(some (bt821.1,bt821.2.1,bt821.2.2)))) else ((c2_Lowest.f x817000 x3 (⟨#[49]⟩:ByteArray)).bind fun bt824=>(some (bt824.1,bt824.2.1,bt824.2.2)))
noncomputable def c2_Down.f (k:Nat) (a0_0:Bool) (a0_1:ByteArray) (a0_2:ByteArray):Option (Bool×ByteArray×ByteArray):=(c1_Divide.f a0_1 a0_2).bind fun bt818=>(if a0_0=true then (c2_Down.j0 k bt818.1 (bt818.2.toList != ([48]:List UInt8)) a0_0 a0_1 a0_2) else (c2_Down.j0 k bt818.1 false a0_0 a0_1 a0_2))
theorem c2_Down.calls (k:Nat) (a0_0:Bool) (a0_1:ByteArray) (a0_2:ByteArray) (r1:Bool) (r2:ByteArray) (r3:ByteArray) (w:World) (h:c2_Down.f k a0_0 a0_1 a0_2=some (r1,r2,r3)) :
  Calls Tryz.prog 134 #[.agg #[.bool a0_0,.string a0_1,.string a0_2]] w fun e w'=>e = .returned (.agg #[.bool r1,.string r2,.string r3])∧Below w.heap.size w w':=by
 have hu66:=Tryz.underlying66
 have HB:=Aside0.mk (Below.refl w.heap.size w)
 have H:((c1_Divide.f a0_1 a0_2).bind fun bt818=>(if a0_0=true then (c2_Down.j0 k bt818.1 (bt818.2.toList != ([48]:List UInt8)) a0_0 a0_1 a0_2) else (c2_Down.j0 k bt818.1 false a0_0 a0_1 a0_2)))=some (r1,r2,r3):=h
 clear h
 replace H:=Option.bind_eq_some_iff.mp H
 obtain ⟨⟨t818,t819⟩,A20,H⟩:=H
 replace H:(if a0_0=true then (c2_Down.j0 k t818 (t819.toList != ([48]:List UInt8)) a0_0 a0_1 a0_2) else (c2_Down.j0 k t818 false a0_0 a0_1 a0_2))=some (r1,r2,r3):=H
 have A2:=Aside0.mk A20
 clear A20
 have HC3:=Aside0.mk H
 clear H
 go_enter Tryz.func134,Tryz.ntmps134
 go_upto_region 2 with (first|((with_reducible refine zaD (N:=1) rfl ?_); refine zaH ?hg (N:=1) ?hd (cs:=#[.bool a0_0,.string a0_1,.string a0_2]) (t:=66) ?hr ?_; (case hd=>rfl); (case hg=>rfl); (case hr=>first|(go_simp; done)|(go_simp; rfl)); intro gb816 hg w4 hbox hb; have n0_:=Aside0.mk (zak (by repeat (first|(with_reducible first|exact HB.out|apply zaa|apply zab|apply zac)|exact HB.out)) hb); have n1_:=Aside0.mk (hbox); have n2_:=Aside0.mk ((by rw [hg]; exact (zan (by repeat (first|(with_reducible first|exact HB.out|apply zaa|apply zab|apply zac)|exact HB.out))):w.heap.size≤gb816)); have n3_:=Aside0.mk ((by rw [hg]; exact (zan (by repeat (first|(with_reducible first|exact HB.out|apply zaa|apply zab|apply zac)|exact HB.out))):w.heap.size≤gb816)); clear HB; have HB:=n0_; have BK816:=n1_; have GW816:=n2_; have GE816:=n3_; clear n0_ n1_ n2_ n3_; clear hb hbox hg)|((with_reducible refine zaD (N:=2) rfl ?_); refine zaH ?hg (N:=2) ?hd (cs:=#[.bool false,.string (⟨#[]⟩:ByteArray),.string (⟨#[]⟩:ByteArray)]) (t:=66) ?hr ?_; (case hd=>rfl); (case hg=>rfl); (case hr=>first|(go_simp; done)|(go_simp; rfl)); intro gb817 hg w5 hbox hb; have n0_:=Aside0.mk (zaq (g:=gb816) (o:=.cells #[.bool a0_0,.string a0_1,.string a0_2] 66 (0,0)) (by (with_reducible repeat (first|refine zah ?_ _|refine zaj ?_|refine zai ?_ _)); exact BK816.out) hb); have n1_:=Aside0.mk (zak (by repeat (first|(with_reducible first|exact HB.out|apply zaa|apply zab|apply zac|refine zag ?_ GE816.out)|exact HB.out)) hb); have n2_:=Aside0.mk (hbox); have n3_:=Aside0.mk ((by rw [hg]; exact (zan (by repeat (first|(with_reducible first|exact HB.out|apply zaa|apply zab|apply zac|refine zag ?_ GE816.out)|exact HB.out))):w.heap.size≤gb817)); have n4_:=Aside0.mk ((by rw [hg]; exact (zan (by repeat (first|(with_reducible first|exact HB.out|apply zaa|apply zab|apply zac|refine zag ?_ GE816.out)|exact HB.out))):w.heap.size≤gb817)); have n5_:=Aside0.mk ((by rw [hg]; exact Nat.ne_of_lt (zas (g:=gb816) (o:=.cells #[.bool a0_0,.string a0_1,.string a0_2] 66 (0,0)) (by (with_reducible repeat (first|refine zah ?_ _|refine zaj ?_|refine zai ?_ _)); exact BK816.out)):gb816≠gb817)); have n6_:=Aside0.mk ((by rw [hg]; exact Nat.ne_of_gt (zas (g:=gb816) (o:=.cells #[.bool a0_0,.string a0_1,.string a0_2] 66 (0,0)) (by (with_reducible repeat (first|refine zah ?_ _|refine zaj ?_|refine zai ?_ _)); exact BK816.out)):gb817≠gb816)); clear BK816; clear HB; have BK816:=n0_; have HB:=n1_; have BK817:=n2_; have GW817:=n3_; have GE817:=n4_; have NB816_817:=n5_; have NB817_816:=n6_; clear n0_ n1_ n2_ n3_ n4_ n5_ n6_; clear hb hbox hg; have hnb6:=NB816_817.out; have hnc6:=NB817_816.out; have hcz7_0:w5.cell? ⟨gb816,0,none⟩=some (.bool a0_0):=(zaf BK816.out 0).trans rfl; have hcz7_1:w5.cell? ⟨gb816,1,none⟩=some (.string a0_1):=(zaf BK816.out 1).trans rfl; have hcz7_2:w5.cell? ⟨gb816,2,none⟩=some (.string a0_2):=(zaf BK816.out 2).trans rfl; have hfz7_0:=zad BK816.out 0; have hfz7_1:=zad BK816.out 1; have hfz7_2:=zad BK816.out 2)|((with_reducible refine zap (f:=128) rfl ?_); refine zaE (some 10) rfl rfl Tryz.func128 (by kernel_rfl) rfl #[.string a0_1,.string a0_2] rfl (by (try simp only [List.map_toArray,List.map_cons,List.map_nil]); first|done|rfl|(simp only [List.length_drop,List.length_take]; rfl)) ?_; (with_reducible refine (c1_Divide.calls a0_1 a0_2 t818 t819 _ A2.out).mono ?_); rintro e w8 ⟨rfl,hb⟩; refine ⟨_,rfl,?_⟩; have n0_:=Aside0.mk (zaq (g:=gb816) (o:=.cells #[.bool a0_0,.string a0_1,.string a0_2] 66 (0,0)) (by (with_reducible repeat (first|refine zah ?_ _|refine zaj ?_|refine zai ?_ _)); exact BK816.out) hb); have n1_:=Aside0.mk (zaq (g:=gb817) (o:=.cells #[.bool false,.string (⟨#[]⟩:ByteArray),.string (⟨#[]⟩:ByteArray)] 66 (0,0)) (by (with_reducible repeat (first|refine zah ?_ _|refine zaj ?_|refine zai ?_ _)); exact BK817.out) hb); have n2_:=Aside0.mk (zak (by repeat (first|(with_reducible first|exact HB.out|apply zaa|apply zab|apply zac|refine zag ?_ GE816.out|refine zag ?_ GE817.out)|exact HB.out)) hb); clear BK816; clear BK817; clear HB; have BK816:=n0_; have BK817:=n1_; have HB:=n2_; clear n0_ n1_ n2_; (try clear hb); (try clear hb2); (try clear hk); (try clear hi)))
 (try simp only [Act.put,List.setIfInBounds_toArray,List.set_cons_zero,List.set_cons_succ])
 go_cut [18] (fun v18 wc=>∃ (kq:Nat) (x18_2:Bool),v18 = .bool x18_2∧Aside0 (c2_Down.j0 kq t818 x18_2 a0_0 a0_1 a0_2=some (r1,r2,r3))∧Aside0 (kq≤k)∧Aside0 (wc.heap[gb816]? = some (.cells #[.bool a0_0,.string a0_1,.string a0_2] 66 (0,0)))∧Aside0 (wc.heap[gb817]? = some (.cells #[.bool false,.string (⟨#[]⟩:ByteArray),.string (⟨#[]⟩:ByteArray)] 66 (0,0)))∧Aside0 (Below w.heap.size w wc))
 case first =>
  have H:=HC3.out
  clear HC3
  by_cases c9:a0_0=true
  ·subst c9
   have H1:(c2_Down.j0 k t818 (t819.toList != ([48]:List UInt8)) true a0_1 a0_2)=some (r1,r2,r3):=by rw [if_pos rfl] at H; exact H
   clear H
   have H:=H1
   clear H1
   have H':=Aside0.mk H
   clear H
   have hnb10:=NB816_817.out
   have hnc10:=NB817_816.out
   have hcz11_0:w8.cell? ⟨gb816,0,none⟩=some (.bool true):=(zaf BK816.out 0).trans rfl
   have hcz11_1:w8.cell? ⟨gb816,1,none⟩=some (.string a0_1):=(zaf BK816.out 1).trans rfl
   have hcz11_2:w8.cell? ⟨gb816,2,none⟩=some (.string a0_2):=(zaf BK816.out 2).trans rfl
   have hfz11_0:=zad BK816.out 0
   have hfz11_1:=zad BK816.out 1
   have hfz11_2:=zad BK816.out 2
   go_wp2
   go_meet
   case rel=>exact ⟨_,((t819.toList != ([48]:List UInt8))),(by first|rfl|(simp; done)|(simp [*]; done)),H',⟨by first|omega|exact Nat.le_refl _⟩,⟨by (with_reducible repeat (first|refine zah ?_ _|refine zaj ?_|refine zai ?_ _)); exact BK816.out⟩,⟨by (with_reducible repeat (first|refine zah ?_ _|refine zaj ?_|refine zai ?_ _)); exact BK817.out⟩,⟨by repeat (first|(with_reducible first|exact HB.out|apply zaa|apply zab|apply zac|refine zag ?_ GE816.out|refine zag ?_ GE817.out)|exact HB.out)⟩⟩
  ·replace c9:=Bool.eq_false_iff.mpr c9
   subst c9
   have H1:(c2_Down.j0 k t818 false false a0_1 a0_2)=some (r1,r2,r3):=by rw [if_neg (show ¬ (false=true) by decide)] at H; exact H
   clear H
   have H:=H1
   clear H1
   have H':=Aside0.mk H
   clear H
   have hnb12:=NB816_817.out
   have hnc12:=NB817_816.out
   have hcz13_0:w8.cell? ⟨gb816,0,none⟩=some (.bool false):=(zaf BK816.out 0).trans rfl
   have hcz13_1:w8.cell? ⟨gb816,1,none⟩=some (.string a0_1):=(zaf BK816.out 1).trans rfl
   have hcz13_2:w8.cell? ⟨gb816,2,none⟩=some (.string a0_2):=(zaf BK816.out 2).trans rfl
   have hfz13_0:=zad BK816.out 0
   have hfz13_1:=zad BK816.out 1
   have hfz13_2:=zad BK816.out 2
   go_wp2
   go_meet
   case rel=>exact ⟨_,(false),(by first|rfl|(simp; done)|(simp [*]; done)),H',⟨by first|omega|exact Nat.le_refl _⟩,⟨by (with_reducible repeat (first|refine zah ?_ _|refine zaj ?_|refine zai ?_ _)); exact BK816.out⟩,⟨by (with_reducible repeat (first|refine zah ?_ _|refine zaj ?_|refine zai ?_ _)); exact BK817.out⟩,⟨by repeat (first|(with_reducible first|exact HB.out|apply zaa|apply zab|apply zac|refine zag ?_ GE816.out|refine zag ?_ GE817.out)|exact HB.out)⟩⟩
 case rest =>
  clear HC3
  try clear c1
  try clear p2
  try clear c6
  try clear c9
  try clear c10
  try clear c12
  try clear c13
  try clear hcz11_0
  try clear hcz11_1
  try clear hcz11_2
  try clear hcz13_0
  try clear hcz13_1
  try clear hcz13_2
  try clear hcz7_0
  try clear hcz7_1
  try clear hcz7_2
  try clear hfz11_0
  try clear hfz11_1
  try clear hfz11_2
  try clear hfz13_0
  try clear hfz13_1
  try clear hfz13_2
  try clear hfz7_0
  try clear hfz7_1
  try clear hfz7_2
  obtain ⟨kq,x18_2,rfl,HA,HJ2,BK816,BK817,HB⟩:=hcut
  cases kq with
  | zero=>exact absurd HA.out (by simp [c2_Down.j0])
  | succ kj2 =>
   have H:=HA.out
   clear HA
   simp only [c2_Down.j0] at H
   by_cases c14:x18_2=true
   ·subst c14
    have H1:((c1_Plus.f t818 (⟨#[49]⟩:ByteArray)).bind fun t820=>((c2_Lowest.f a0_0 t820 (⟨#[49]⟩:ByteArray)).bind fun bt821=>(some (bt821.1,bt821.2.1,bt821.2.2))))=some (r1,r2,r3):=by rw [if_pos rfl] at H; exact H
    clear H
    have H:=H1
    clear H1
    replace H:=Option.bind_eq_some_iff.mp H
    obtain ⟨t820,A150,H⟩:=H
    replace H:((c2_Lowest.f a0_0 t820 (⟨#[49]⟩:ByteArray)).bind fun bt821=>(some (bt821.1,bt821.2.1,bt821.2.2)))=some (r1,r2,r3):=H
    have A15:=Aside0.mk A150
    clear A150
    replace H:=Option.bind_eq_some_iff.mp H
    obtain ⟨⟨t821,t822,t823⟩,A160,H⟩:=H
    replace H:(some (t821,t822,t823))=some (r1,r2,r3):=H
    have A16:=Aside0.mk A160
    clear A160
    simp only [Option.some.injEq,Prod.mk.injEq] at H
    obtain ⟨rfl,rfl,rfl⟩:=H
    go_wp2_with (first|((with_reducible refine zap (f:=129) rfl ?_); refine zaE (some 20) rfl rfl Tryz.func129 (by kernel_rfl) rfl #[.string t818,.string (⟨#[49]⟩:ByteArray)] rfl (by (try simp only [List.map_toArray,List.map_cons,List.map_nil]); first|done|rfl|(simp only [List.length_drop,List.length_take]; rfl)) ?_; (with_reducible refine (c1_Plus.calls t818 (⟨#[49]⟩:ByteArray) t820 _ A15.out).mono ?_); rintro e w17 ⟨rfl,hb⟩; refine ⟨_,rfl,?_⟩; have n0_:=Aside0.mk (zaq (g:=gb816) (o:=.cells #[.bool a0_0,.string a0_1,.string a0_2] 66 (0,0)) (by (with_reducible repeat (first|refine zah ?_ _|refine zaj ?_|refine zai ?_ _)); exact BK816.out) hb); have n1_:=Aside0.mk (zaq (g:=gb817) (o:=.cells #[.bool false,.string (⟨#[]⟩:ByteArray),.string (⟨#[]⟩:ByteArray)] 66 (0,0)) (by (with_reducible repeat (first|refine zah ?_ _|refine zaj ?_|refine zai ?_ _)); exact BK817.out) hb); have n2_:=Aside0.mk (zak (by repeat (first|(with_reducible first|exact HB.out|apply zaa|apply zab|apply zac|refine zag ?_ GE816.out|refine zag ?_ GE817.out)|exact HB.out)) hb); clear BK816; clear BK817; clear HB; have BK816:=n0_; have BK817:=n1_; have HB:=n2_; clear n0_ n1_ n2_; (try clear hb); (try clear hb2); (try clear hk); (try clear hi); have hnb18:=NB816_817.out; have hnc18:=NB817_816.out; have hcz19_0:w17.cell? ⟨gb816,0,none⟩=some (.bool a0_0):=(zaf BK816.out 0).trans rfl; have hcz19_1:w17.cell? ⟨gb816,1,none⟩=some (.string a0_1):=(zaf BK816.out 1).trans rfl; have hcz19_2:w17.cell? ⟨gb816,2,none⟩=some (.string a0_2):=(zaf BK816.out 2).trans rfl; have hfz19_0:=zad BK816.out 0; have hfz19_1:=zad BK816.out 1; have hfz19_2:=zad BK816.out 2)|((with_reducible refine zap (f:=111) rfl ?_); refine zaE (some 24) rfl rfl Tryz.func111 (by kernel_rfl) rfl #[.bool a0_0,.string t820,.string (⟨#[49]⟩:ByteArray)] rfl (by (try simp only [List.map_toArray,List.map_cons,List.map_nil]); first|done|rfl|(simp only [List.length_drop,List.length_take]; rfl)) ?_; (with_reducible refine (c2_Lowest.calls a0_0 t820 (⟨#[49]⟩:ByteArray) t821 t822 t823 _ A16.out).mono ?_); rintro e w20 ⟨rfl,hb⟩; refine ⟨_,rfl,?_⟩; have n0_:=Aside0.mk (zaq (g:=gb816) (o:=.cells #[.bool a0_0,.string a0_1,.string a0_2] 66 (0,0)) (by (with_reducible repeat (first|refine zah ?_ _|refine zaj ?_|refine zai ?_ _)); exact BK816.out) hb); have n1_:=Aside0.mk (zaq (g:=gb817) (o:=.cells #[.bool false,.string (⟨#[]⟩:ByteArray),.string (⟨#[]⟩:ByteArray)] 66 (0,0)) (by (with_reducible repeat (first|refine zah ?_ _|refine zaj ?_|refine zai ?_ _)); exact BK817.out) hb); have n2_:=Aside0.mk (zak (by repeat (first|(with_reducible first|exact HB.out|apply zaa|apply zab|apply zac|refine zag ?_ GE816.out|refine zag ?_ GE817.out)|exact HB.out)) hb); clear BK816; clear BK817; clear HB; have BK816:=n0_; have BK817:=n1_; have HB:=n2_; clear n0_ n1_ n2_; (try clear hb); (try clear hb2); (try clear hk); (try clear hi); have hcz21_0:w20.cell? ⟨gb817,0,none⟩=some (.bool false):=(zaf BK817.out 0).trans rfl; have hcz21_1:w20.cell? ⟨gb817,1,none⟩=some (.string (⟨#[]⟩:ByteArray)):=(zaf BK817.out 1).trans rfl; have hcz21_2:w20.cell? ⟨gb817,2,none⟩=some (.string (⟨#[]⟩:ByteArray)):=(zaf BK817.out 2).trans rfl; have hfz21_0:=zad BK817.out 0; have hfz21_1:=zad BK817.out 1; have hfz21_2:=zad BK817.out 2))
    refine bodyPost_ret (results_cell_row rfl _ _ gb817 66 #[.bool t821,.string t822,.string t823] (0,0) _ rfl (by (with_reducible repeat (first|refine zah ?_ _|refine zaj ?_|refine zai ?_ _)); refine zax (cs:=#[.bool t821,.string t822,.string (⟨#[]⟩:ByteArray)]) ?_ 2 _ rfl; (with_reducible repeat (first|refine zah ?_ _|refine zaj ?_|refine zai ?_ _)); refine zax (cs:=#[.bool t821,.string (⟨#[]⟩:ByteArray),.string (⟨#[]⟩:ByteArray)]) ?_ 1 _ rfl; (with_reducible repeat (first|refine zah ?_ _|refine zaj ?_|refine zai ?_ _)); refine zax (cs:=#[.bool false,.string (⟨#[]⟩:ByteArray),.string (⟨#[]⟩:ByteArray)]) ?_ 0 _ rfl; (with_reducible repeat (first|refine zah ?_ _|refine zaj ?_|refine zai ?_ _)); exact BK817.out) Tryz.underlying66 rfl (by kernel_rfl)) rfl ?_
    exact ⟨by first|rfl|(simp [zam,zal]<;>rfl)|(simp [*,zam,zal]<;>rfl),by repeat (first|(with_reducible first|exact HB.out|apply zaa|apply zab|apply zac|refine zag ?_ GE816.out|refine zag ?_ GE817.out)|exact HB.out)⟩
   ·replace c14:=Bool.eq_false_iff.mpr c14
    subst c14
    have H1:((c2_Lowest.f a0_0 t818 (⟨#[49]⟩:ByteArray)).bind fun bt824=>(some (bt824.1,bt824.2.1,bt824.2.2)))=some (r1,r2,r3):=by rw [if_neg (show ¬ (false=true) by decide)] at H; exact H
    clear H
    have H:=H1
    clear H1
    replace H:=Option.bind_eq_some_iff.mp H
    obtain ⟨⟨t824,t825,t826⟩,A220,H⟩:=H
    replace H:(some (t824,t825,t826))=some (r1,r2,r3):=H
    have A22:=Aside0.mk A220
    clear A220
    simp only [Option.some.injEq,Prod.mk.injEq] at H
    obtain ⟨rfl,rfl,rfl⟩:=H
    have hnb23:=NB816_817.out
    have hnc23:=NB817_816.out
    have hcz24_0:wc.cell? ⟨gb816,0,none⟩=some (.bool a0_0):=(zaf BK816.out 0).trans rfl
    have hcz24_1:wc.cell? ⟨gb816,1,none⟩=some (.string a0_1):=(zaf BK816.out 1).trans rfl
    have hcz24_2:wc.cell? ⟨gb816,2,none⟩=some (.string a0_2):=(zaf BK816.out 2).trans rfl
    have hfz24_0:=zad BK816.out 0
    have hfz24_1:=zad BK816.out 1
    have hfz24_2:=zad BK816.out 2
    go_wp2_with (first|((with_reducible refine zap (f:=111) rfl ?_); refine zaE (some 24) rfl rfl Tryz.func111 (by kernel_rfl) rfl #[.bool a0_0,.string t818,.string (⟨#[49]⟩:ByteArray)] rfl (by (try simp only [List.map_toArray,List.map_cons,List.map_nil]); first|done|rfl|(simp only [List.length_drop,List.length_take]; rfl)) ?_; (with_reducible refine (c2_Lowest.calls a0_0 t818 (⟨#[49]⟩:ByteArray) t824 t825 t826 _ A22.out).mono ?_); rintro e w25 ⟨rfl,hb⟩; refine ⟨_,rfl,?_⟩; have n0_:=Aside0.mk (zaq (g:=gb816) (o:=.cells #[.bool a0_0,.string a0_1,.string a0_2] 66 (0,0)) (by (with_reducible repeat (first|refine zah ?_ _|refine zaj ?_|refine zai ?_ _)); exact BK816.out) hb); have n1_:=Aside0.mk (zaq (g:=gb817) (o:=.cells #[.bool false,.string (⟨#[]⟩:ByteArray),.string (⟨#[]⟩:ByteArray)] 66 (0,0)) (by (with_reducible repeat (first|refine zah ?_ _|refine zaj ?_|refine zai ?_ _)); exact BK817.out) hb); have n2_:=Aside0.mk (zak (by repeat (first|(with_reducible first|exact HB.out|apply zaa|apply zab|apply zac|refine zag ?_ GE816.out|refine zag ?_ GE817.out)|exact HB.out)) hb); clear BK816; clear BK817; clear HB; have BK816:=n0_; have BK817:=n1_; have HB:=n2_; clear n0_ n1_ n2_; (try clear hb); (try clear hb2); (try clear hk); (try clear hi); have hcz26_0:w25.cell? ⟨gb817,0,none⟩=some (.bool false):=(zaf BK817.out 0).trans rfl; have hcz26_1:w25.cell? ⟨gb817,1,none⟩=some (.string (⟨#[]⟩:ByteArray)):=(zaf BK817.out 1).trans rfl; have hcz26_2:w25.cell? ⟨gb817,2,none⟩=some (.string (⟨#[]⟩:ByteArray)):=(zaf BK817.out 2).trans rfl; have hfz26_0:=zad BK817.out 0; have hfz26_1:=zad BK817.out 1; have hfz26_2:=zad BK817.out 2))
    refine bodyPost_ret (results_cell_row rfl _ _ gb817 66 #[.bool t824,.string t825,.string t826] (0,0) _ rfl (by (with_reducible repeat (first|refine zah ?_ _|refine zaj ?_|refine zai ?_ _)); refine zax (cs:=#[.bool t824,.string t825,.string (⟨#[]⟩:ByteArray)]) ?_ 2 _ rfl; (with_reducible repeat (first|refine zah ?_ _|refine zaj ?_|refine zai ?_ _)); refine zax (cs:=#[.bool t824,.string (⟨#[]⟩:ByteArray),.string (⟨#[]⟩:ByteArray)]) ?_ 1 _ rfl; (with_reducible repeat (first|refine zah ?_ _|refine zaj ?_|refine zai ?_ _)); refine zax (cs:=#[.bool false,.string (⟨#[]⟩:ByteArray),.string (⟨#[]⟩:ByteArray)]) ?_ 0 _ rfl; (with_reducible repeat (first|refine zah ?_ _|refine zaj ?_|refine zai ?_ _)); exact BK817.out) Tryz.underlying66 rfl (by kernel_rfl)) rfl ?_
    exact ⟨by first|rfl|(simp [zam,zal]<;>rfl)|(simp [*,zam,zal]<;>rfl),by repeat (first|(with_reducible first|exact HB.out|apply zaa|apply zab|apply zac|refine zag ?_ GE816.out|refine zag ?_ GE817.out)|exact HB.out)⟩
noncomputable def c2_Floor.f (k:Nat) (a0_0:ByteArray) (a0_1:ByteArray):Option (ByteArray×ByteArray×Int):=(c2_Right.f k a0_0 a0_1).bind fun t829=>(if t829=true then ((c2_Read.f k a0_0 a0_1).bind fun bt830=>((c2_Down.f k bt830.1 bt830.2.1 bt830.2.2).bind fun bt833=>((c2_Told.f k bt833.1 bt833.2.1 bt833.2.2).bind fun bt836=>(some (bt836.1,bt836.2.1,bt836.2.2))))) else (some ((⟨#[]⟩:ByteArray),(⟨#[]⟩:ByteArray),3)))
noncomputable def rat_Sign.f (a0_0:ByteArray) (a0_1:ByteArray):Option (Int×Int):=(rat_Of.f 0).bind fun bt812=>((rat_Cmp.f a0_0 a0_1 bt812.1 bt812.2).bind fun bt814=>(some (bt814.1,bt814.2)))
theorem rat_Sign.calls (a0_0:ByteArray) (a0_1:ByteArray) (r1:Int) (r2:Int) (w:World) (h:rat_Sign.f a0_0 a0_1=some (r1,r2)) :
  Calls Tryz.prog 52 #[.agg #[.string a0_0,.string a0_1]] w fun e w'=>e = .returned (.tuple #[.int .i64 r1,.int .i64 r2])∧Below w.heap.size w w':=by
 have hu23:=Tryz.underlying23
 have HB:=Aside0.mk (Below.refl w.heap.size w)
 have H:((rat_Of.f 0).bind fun bt812=>((rat_Cmp.f a0_0 a0_1 bt812.1 bt812.2).bind fun bt814=>(some (bt814.1,bt814.2))))=some (r1,r2):=h
 clear h
 replace H:=Option.bind_eq_some_iff.mp H
 obtain ⟨⟨t812,t813⟩,A20,H⟩:=H
 replace H:((rat_Cmp.f a0_0 a0_1 t812 t813).bind fun bt814=>(some (bt814.1,bt814.2)))=some (r1,r2):=H
 have A2:=Aside0.mk A20
 clear A20
 replace H:=Option.bind_eq_some_iff.mp H
 obtain ⟨⟨t814,t815⟩,A30,H⟩:=H
 replace H:(some (t814,t815))=some (r1,r2):=H
 have A3:=Aside0.mk A30
 clear A30
 simp only [Option.some.injEq,Prod.mk.injEq] at H
 obtain ⟨rfl,rfl⟩:=H
 go_enter Tryz.func52,Tryz.ntmps52
 try go_wp2_with (first|((with_reducible refine zaD (N:=1) rfl ?_); refine zaH ?hg (N:=1) ?hd (cs:=#[.string a0_0,.string a0_1]) (t:=23) ?hr ?_; (case hd=>rfl); (case hg=>rfl); (case hr=>first|(go_simp; done)|(go_simp; rfl)); intro gb811 hg w4 hbox hb; have n0_:=Aside0.mk (zak (by repeat (first|(with_reducible first|exact HB.out|apply zaa|apply zab|apply zac)|exact HB.out)) hb); have n1_:=Aside0.mk (hbox); have n2_:=Aside0.mk ((by rw [hg]; exact (zan (by repeat (first|(with_reducible first|exact HB.out|apply zaa|apply zab|apply zac)|exact HB.out))):w.heap.size≤gb811)); have n3_:=Aside0.mk ((by rw [hg]; exact (zan (by repeat (first|(with_reducible first|exact HB.out|apply zaa|apply zab|apply zac)|exact HB.out))):w.heap.size≤gb811)); clear HB; have HB:=n0_; have BK811:=n1_; have GW811:=n2_; have GE811:=n3_; clear n0_ n1_ n2_ n3_; clear hb hbox hg))
 have n0_:=Aside0.mk (zaj BK811.out)
 have n1_:=Aside0.mk (zac HB.out)
 clear BK811
 clear HB
 have BK811:=n0_
 have HB:=n1_
 clear n0_ n1_
 refine start_ (n:=7) (S:=fun w'=>w'.cell? ⟨gb811,0,none⟩=some (.string a0_0)∧w'.cell? ⟨gb811,1,none⟩=some (.string a0_1)) (ds:=[]) #[false,false,false,false,false,false,false] (by kernel_rfl) rfl rfl ⟨(zaf BK811.out 0).trans rfl,(zaf BK811.out 1).trans rfl⟩ (fun hHeld => ?_)
 generalize w4.drew=w5 at BK811 HB hHeld ⊢
 refine take_ (i:=0) (N:=some 4) (v:=?_) (a':=?_) #[true,false,false,false,false,false,false] rfl rfl (by kernel_rfl) (fun _ _ _ h=>h) (Or.inl ⟨by rfl,?_⟩) hHeld ?_ ?_
 rotate_left
 ·rintro w' ⟨s0,s1⟩
  go_simp
  with_reducible rfl
 rotate_left
 ·simp only [Act.put,List.setIfInBounds_toArray,List.set_cons_zero,List.set_cons_succ,i64_w,i32_w]
  rfl
 refine one_ (i:=1) (N:=some 5) #[true,true,false,false,false,false,false] rfl rfl (by kernel_rfl) (by decide) (fun K hK => ?_)
 refine goes_ Tryz.func37 (by kernel_rfl) rfl #[.int .i64 0] (by rfl) rfl rfl (by (try simp only [List.map_toArray,List.map_cons,List.map_nil]); first|done|rfl|(simp only [List.length_drop,List.length_take]; rfl)) ?_
 with_reducible refine (rat_Of.calls 0 t812 t813 _ A2.out).mono ?_
 rintro e w6 ⟨rfl,hb⟩
 refine ⟨_,rfl,?_⟩
 have n0_:=Aside0.mk (zaq (g:=gb811) (o:=.cells #[.string a0_0,.string a0_1] 23 (0,0)) (by (with_reducible repeat (first|refine zah ?_ _|refine zaj ?_|refine zai ?_ _)); exact BK811.out) hb)
 have n1_:=Aside0.mk (zak (by repeat (first|(with_reducible first|exact HB.out|apply zaa|apply zab|apply zac|refine zag ?_ GE811.out)|exact HB.out)) hb)
 clear BK811
 clear HB
 have BK811:=n0_
 have HB:=n1_
 clear n0_ n1_
 (try clear hb)
 (try clear hb2)
 (try clear hk)
 (try clear hi)
 refine hK.out _ _ ⟨(zaf BK811.out 0).trans rfl,(zaf BK811.out 1).trans rfl⟩ (fun hHeld => ?_)
 clear hK K
 refine norm_ (a':=?_) ?_ ?_
 rotate_left
 ·show Act.put _ (some 5) _=_
  simp only [Act.put,List.setIfInBounds_toArray,List.set_cons_zero,List.set_cons_succ,i64_w,i32_w]
  rfl
 refine one_ (i:=2) (N:=some 6) #[true,true,true,false,false,false,false] rfl rfl (by kernel_rfl) (by decide) (fun K hK => ?_)
 refine goes_ Tryz.func43 (by kernel_rfl) rfl #[.agg #[.string a0_0,.string a0_1],.agg #[.string t812,.string t813]] (by rfl) rfl rfl (by (try simp only [List.map_toArray,List.map_cons,List.map_nil]); first|done|rfl|(simp only [List.length_drop,List.length_take]; rfl)) ?_
 with_reducible refine (rat_Cmp.calls a0_0 a0_1 t812 t813 t814 t815 _ A3.out).mono ?_
 rintro e w7 ⟨rfl,hb⟩
 refine ⟨_,rfl,?_⟩
 have n0_:=Aside0.mk (zaq (g:=gb811) (o:=.cells #[.string a0_0,.string a0_1] 23 (0,0)) (by (with_reducible repeat (first|refine zah ?_ _|refine zaj ?_|refine zai ?_ _)); exact BK811.out) hb)
 have n1_:=Aside0.mk (zak (by repeat (first|(with_reducible first|exact HB.out|apply zaa|apply zab|apply zac|refine zag ?_ GE811.out)|exact HB.out)) hb)
 clear BK811
 clear HB
 have BK811:=n0_
 have HB:=n1_
 clear n0_ n1_
 (try clear hb)
 (try clear hb2)
 (try clear hk)
 (try clear hi)
 refine hK.out _ _ ⟨(zaf BK811.out 0).trans rfl,(zaf BK811.out 1).trans rfl⟩ (fun hHeld => ?_)
 clear hK K
 refine norm_ (a':=?_) ?_ ?_
 rotate_left
 ·show Act.put _ (some 6) _=_
  simp only [Act.put,List.setIfInBounds_toArray,List.set_cons_zero,List.set_cons_succ,i64_w,i32_w]
  rfl
 refine pure_ (i:=3) (N:=some 7) (v:=?_) (a':=?_) #[true,true,true,true,false,false,false] rfl rfl (by kernel_rfl) (fun _ _ _ h=>h) (Or.inl ⟨by rfl,?_⟩) ?_ ?_
 rotate_left
 ·intro w'
  go_simp
  with_reducible rfl
 rotate_left
 ·simp only [Act.put,List.setIfInBounds_toArray,List.set_cons_zero,List.set_cons_succ,i64_w,i32_w]
  rfl
 refine pure_ (i:=4) (N:=some 8) (v:=?_) (a':=?_) #[true,true,true,true,true,false,false] rfl rfl (by kernel_rfl) (fun _ _ _ h=>h) (Or.inl ⟨by rfl,?_⟩) ?_ ?_
 rotate_left
 ·intro w'
  go_simp
  with_reducible rfl
 rotate_left
 ·simp only [Act.put,List.setIfInBounds_toArray,List.set_cons_zero,List.set_cons_succ,i64_w,i32_w]
  rfl
 refine pure_ (i:=5) (N:=some 2) (v:=?_) (a':=?_) #[true,true,true,true,true,true,false] rfl rfl (by kernel_rfl) (fun _ _ _ h=>h) (Or.inl ⟨by rfl,?_⟩) ?_ ?_
 rotate_left
 ·intro w'
  go_simp
  with_reducible rfl
 rotate_left
 ·simp only [Act.put,List.setIfInBounds_toArray,List.set_cons_zero,List.set_cons_succ,i64_w,i32_w]
  rfl
 refine pure_ (i:=6) (N:=some 3) (v:=?_) (a':=?_) #[true,true,true,true,true,true,true] rfl rfl (by kernel_rfl) (fun _ _ _ h=>h) (Or.inl ⟨by rfl,?_⟩) ?_ ?_
 rotate_left
 ·intro w'
  go_simp
  with_reducible rfl
 rotate_left
 ·simp only [Act.put,List.setIfInBounds_toArray,List.set_cons_zero,List.set_cons_succ,i64_w,i32_w]
  rfl
 refine done_ (by kernel_rfl) ?_
 try go_wp2
 go_ret2
 exact ⟨by first|rfl|(simp [zam,zal]<;>rfl)|(simp [*,zam,zal]<;>rfl),by repeat (first|(with_reducible first|exact HB.out|apply zaa|apply zab|apply zac|refine zag ?_ GE811.out)|exact HB.out)⟩
end Go.Proofs.ZQ
end
