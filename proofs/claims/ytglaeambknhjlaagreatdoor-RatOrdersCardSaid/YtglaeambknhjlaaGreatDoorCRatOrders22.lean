/- Texts under the proof, joined by a program (prune.py): Q1, Q180, QAwake, TAwake, QAwakeT, LawRatOrders. -/
import Derived.Test.YtglaeambknhjlaaGreatDoorCRatOrders13
import Derived.Test.YtglaeambknhjlaaGreatDoorCRatOrders21
import Derived.Test.YtglaeambknhjlaaGreatDoorCRatOrders15
import Derived.Test.YtglaeambknhjlaaGreatDoorCRatOrders17
import Derived.Test.YtglaeambknhjlaaGreatDoorCRatOrders19
set_option linter.unusedVariables false
set_option linter.unusedSimpArgs false
set_option exponentiation.threshold 20001
set_option maxHeartbeats 8000000
set_option maxRecDepth 100000
section
namespace Go.Proofs.ZQ
open Go.RowKit Go.Proofs.ZW.Wa Go.Proofs.ZW.Wb Go.Proofs.ZW.Wc
attribute [local go_sem] zaL zaJ zaS zaR zaC zaB zaK zaI
theorem eqA23 (d:Nat) (w:World) (x0 y0:ByteArray) (x1 y1:ByteArray) :
  (Op.equalIn (d+2) 23 (.agg #[.string x0,.string x1]) (.agg #[.string y0,.string y1])).run Tryz.prog w = .ok (x0.toList == y0.toList && (x1.toList == y1.toList)) w:=by
 refine eqA_of Tryz.underlying23 (by kernel_rfl) ?_
 refine eqf_cons (by rfl) (by go_simp; rfl) (by go_simp; rfl) (by go_simp) ?_
 exact eqf_last (by rfl) (by go_simp; rfl) (by go_simp; rfl) (by go_simp)
end Go.Proofs.ZQ
end
section
namespace Go.Proofs.ZQ
open Go.RowKit Go.Proofs.ZW.Wa Go.Proofs.ZW.Wb Go.Proofs.ZW.Wc
attribute [local go_sem] zaL zaJ zaS zaR zaC zaB zaK zaI
attribute [local go_sem high] eqA23
noncomputable def l2_awake.f  : Option (Bool):=(rat_Parse.f (⟨#[45,49,46,50,53,48,101,45,49]⟩:ByteArray)).bind fun bt540=>((rat_Digits.f (⟨#[50,50]⟩:ByteArray) (⟨#[55]⟩:ByteArray) 4).bind fun bt545=>(if bt540.2.2.1=0 then (if bt540.2.2.2=0 then (if (bt540.1.toList == ([45,49]:List UInt8) && (bt540.2.1.toList == ([56]:List UInt8)))=true then (if bt545.1.toList=([51,46,49,52,50,57]:List UInt8) then (some (bt545.2 == 0)) else (some false)) else (some false)) else (some false)) else (some false)))
end Go.Proofs.ZQ
end
section
namespace Go.Proofs.ZQ
open Go.RowKit Go.Proofs.ZW.Wa Go.Proofs.ZP
theorem zdg {n:Nat} (h:n<10^20):n<10^600:=Nat.lt_of_lt_of_le h (Nat.pow_le_pow_right (by decide) (by decide))
theorem small_size {n:Nat} (h:n<10^20):¬ 600<(T n).size:=Nat.not_lt.2 ((zaz (by decide)).2 (zdg h))
theorem T_lit (s:ByteArray) (n:Nat) (hd:dval s.data.toList=n) (h:ZP.Can s.data.toList):T n=s:=by
 subst hd; exact (can_T h).symm
theorem can_of {l:List UInt8} (h:(decide (0<l.length) && l.all (fun c=>decide (48≤c.toNat) && decide (c.toNat≤57)) && (decide (l.head? ≠ some 48) || decide (l.length=1)))=true):ZP.Can l:=by
 simp only [Bool.and_eq_true,Bool.or_eq_true,decide_eq_true_eq,List.all_eq_true] at h
 exact ⟨h.1.1,fun c hc=>h.1.2 c hc,fun e=>h.2.elim (fun k=>absurd e k) id⟩
theorem T8:T 8=⟨#[56]⟩:=T_lit _ _ rfl (can_of (by decide))
theorem T22:T 22=⟨#[50,50]⟩:=T_lit _ _ rfl (can_of (by decide))
theorem T7:T 7=⟨#[55]⟩:=T_lit _ _ rfl (can_of (by decide))
theorem T31429:T 31429=⟨#[51,49,52,50,57]⟩:=T_lit _ _ rfl (can_of (by decide))
def awS:ByteArray:=⟨#[45,49,46,50,53,48,101,45,49]⟩
def awF:Fm:=⟨9,false,true,⟨#[49,50,53,48]⟩,3,⟨#[49]⟩,true,⟨#[]⟩,false,0⟩
theorem aw_form:formF awS=awF:=by kernel_rfl
theorem aw_val:signed awF (((1250:Int):Rat)*tenR (-4))=Rat.divInt (-1) 8:=by kernel_rfl
theorem aw_dec:decF awF=some (((1250:Int):Rat)*tenR (-4)):=by
 have e1:expE awF=some (-1):=by kernel_rfl
 have e2:dval awF.m.data.toList=1250:=by kernel_rfl
 unfold decF
 rw [e1,e2,Option.bind_some]
 refine za9 ?_
 rintro (h|h|h)
 ·exact small_size (by decide) h
 ·exact absurd h.2 (by decide)
 ·exact absurd h.1 (by decide)
theorem aw_parse:rat_Parse.f ⟨#[45,49,46,50,53,48,101,45,49]⟩=some (⟨#[45,49]⟩,⟨#[56]⟩,0,0):=by
 have hn:(Rat.divInt (-1) 8).num = -1:=by decide
 have hd:(Rat.divInt (-1) 8).den=8:=by decide
 have ht:toldR (Rat.divInt (-1) 8)=(⟨#[45,49]⟩,⟨#[56]⟩,0):=by
  unfold toldR
  have hs:Sm (Rat.divInt (-1) 8):=by
   unfold Sm
   rw [hn,hd]
   exact ⟨zdg (by decide),zdg (by decide)⟩
  rw [if_pos hs,hn,hd,T8,wtext_neg (by decide)]
  show ((⟨#[45]⟩:ByteArray)++T 1,(⟨#[56]⟩:ByteArray),(0:Int))=_
  rw [T_one]; rfl
 show some (parseF awS)=_
 refine congrArg some ?_
 unfold parseF
 have h1:¬ 65536<awS.size:=by decide
 have h2:awF.end_ awS=true:=by kernel_rfl
 have h3:awF.fraction=false:=rfl
 rw [if_neg h1,aw_form,h2,if_neg (by decide),h3,if_neg (by decide),aw_dec]
 show ((toldR (signed awF _)).1,(toldR (signed awF _)).2.1,(toldR (signed awF _)).2.2,(0:Int))=_
 rw [aw_val,ht]
theorem aw_digits:rat_Digits.f ⟨#[50,50]⟩ ⟨#[55]⟩ 4=some (⟨#[51,46,49,52,50,57]⟩,0):=by
 have hn:(Rat.divInt 22 7).num=22:=by decide
 have hd:(Rat.divInt 22 7).den=7:=by decide
 have hr:RR ⟨#[50,50]⟩ ⟨#[55]⟩ (Rat.divInt 22 7):=by
  refine ⟨?_,?_,?_,?_⟩
  ·rw [hn,za3 (by decide)]; exact T22.symm
  ·rw [hd]; exact T7.symm
  ·rw [hn]; exact zdg (by decide)
  ·rw [hd]; exact zdg (by decide)
 have he:∃ x,RR ⟨#[50,50]⟩ ⟨#[55]⟩ x:=⟨_,hr⟩
 have ev:evenR (Rat.divInt 22 7*tenR 4)=31429:=by kernel_rfl
 unfold rat_Digits.f
 rw [dif_pos he,←RR.uniq hr he.choose_spec]
 unfold digR
 rw [if_neg (by decide),ev,if_neg (small_size (by decide))]
 refine congrArg some ?_
 have:dgt 31429 4=⟨#[51,46,49,52,50,57]⟩:=by
  unfold dgt
  rw [if_neg (by decide)]
  show ptT (padT (T 31429) 4) 4=_
  rw [T31429]; kernel_rfl
 show (dgt 31429 4,(0:Int))=_
 rw [this]
theorem awake_f:l2_awake.f=some true:=by
 unfold l2_awake.f
 rw [aw_parse,Option.bind_some,aw_digits,Option.bind_some]
 have e1:(((⟨#[45,49]⟩:ByteArray).toList == ([45,49]:List UInt8)) && ((⟨#[56]⟩:ByteArray).toList == ([56]:List UInt8)))=true:=by
  rw [ba_toList,ba_toList]; rfl
 have e2:(⟨#[51,46,49,52,50,57]⟩:ByteArray).toList=([51,46,49,52,50,57]:List UInt8):=by rw [ba_toList]
 rw [if_pos rfl,if_pos rfl,if_pos e1,if_pos e2]; rfl
end Go.Proofs.ZQ
end
section
namespace Go.Proofs.ZQ
open Go.RowKit Go.Proofs.ZW.Wa Go.Proofs.ZW.Wb Go.Proofs.ZW.Wc
attribute [local go_sem] zaL zaJ zaS zaR zaC zaB zaK zaI
attribute [local go_sem high] eqA23
theorem l2_awake.callsT  (r:Bool) (w:World) (h:l2_awake.f  = some r) (hr:r=true) :
  Calls Tryz.prog 32 #[] w fun e w'=>e = .returned (.bool r)∧Below w.heap.size w w':=by
 have hu23:=Tryz.underlying23
 have HB:=Aside0.mk (Below.refl w.heap.size w)
 have H:((rat_Parse.f (⟨#[45,49,46,50,53,48,101,45,49]⟩:ByteArray)).bind fun bt540=>((rat_Digits.f (⟨#[50,50]⟩:ByteArray) (⟨#[55]⟩:ByteArray) 4).bind fun bt545=>(if bt540.2.2.1=0 then (if bt540.2.2.2=0 then (if (bt540.1.toList == ([45,49]:List UInt8) && (bt540.2.1.toList == ([56]:List UInt8)))=true then (if bt545.1.toList=([51,46,49,52,50,57]:List UInt8) then (some (bt545.2 == 0)) else (some false)) else (some false)) else (some false)) else (some false))))=some r:=h
 clear h
 replace H:=Option.bind_eq_some_iff.mp H
 obtain ⟨⟨t540,t541,t542,t543⟩,A10,H⟩:=H
 replace H:((rat_Digits.f (⟨#[50,50]⟩:ByteArray) (⟨#[55]⟩:ByteArray) 4).bind fun bt545=>(if t542=0 then (if t543=0 then (if (t540.toList == ([45,49]:List UInt8) && (t541.toList == ([56]:List UInt8)))=true then (if bt545.1.toList=([51,46,49,52,50,57]:List UInt8) then (some (bt545.2 == 0)) else (some false)) else (some false)) else (some false)) else (some false)))=some r:=H
 have A1:=Aside0.mk A10
 clear A10
 replace H:=Option.bind_eq_some_iff.mp H
 obtain ⟨⟨t545,t546⟩,A20,H⟩:=H
 replace H:(if t542=0 then (if t543=0 then (if (t540.toList == ([45,49]:List UInt8) && (t541.toList == ([56]:List UInt8)))=true then (if t545.toList=([51,46,49,52,50,57]:List UInt8) then (some (t546 == 0)) else (some false)) else (some false)) else (some false)) else (some false))=some r:=H
 have A2:=Aside0.mk A20
 clear A20
 by_cases c3:t542=0
 ·rw [if_pos c3] at H
  have c3b0:(t542 == 0)=true:=beq_iff_eq.mpr c3
  have c3b1:(t542 != 0)=false:=bne_eq_false_iff_eq.mpr c3
  clear c3
  by_cases c4:t543=0
  ·rw [if_pos c4] at H
   have c4b0:(t543 == 0)=true:=beq_iff_eq.mpr c4
   have c4b1:(t543 != 0)=false:=bne_eq_false_iff_eq.mpr c4
   clear c4
   by_cases c5:(t540.toList == ([45,49]:List UInt8) && (t541.toList == ([56]:List UInt8)))=true
   ·rw [if_pos c5] at H
    have c5b0:(t540.toList == ([45,49]:List UInt8) && (t541.toList == ([56]:List UInt8)))=true:=c5
    (try (have c5b1:decide (t540.toList=([45,49]:List UInt8) && (t541.toList == ([56]:List UInt8)))=true:=by simpa using c5))
    clear c5
    by_cases c6:t545.toList=([51,46,49,52,50,57]:List UInt8)
    ·rw [if_pos c6] at H
     have c6b0:(t545.toList == ([51,46,49,52,50,57]:List UInt8))=true:=beq_iff_eq.mpr c6
     have c6b1:(t545.toList != ([51,46,49,52,50,57]:List UInt8))=false:=bne_eq_false_iff_eq.mpr c6
     clear c6
     obtain rfl:=Option.some.inj H; clear hr
     go_enter Tryz.func32,Tryz.ntmps32
     go_wp2_with (first|((with_reducible refine zap (f:=59) rfl ?_); refine zaE (some 7) rfl rfl Tryz.func59 (by kernel_rfl) rfl #[.string (⟨#[45,49,46,50,53,48,101,45,49]⟩:ByteArray)] rfl (by (try simp only [List.map_toArray,List.map_cons,List.map_nil]); first|done|rfl|(simp only [List.length_drop,List.length_take]; rfl)) ?_; (with_reducible refine (rat_Parse.calls (⟨#[45,49,46,50,53,48,101,45,49]⟩:ByteArray) t540 t541 t542 t543 _ A1.out).mono ?_); rintro e w7 ⟨rfl,hb⟩; refine ⟨_,rfl,?_⟩; have n0_:=Aside0.mk (zak (by repeat (first|(with_reducible first|exact HB.out|apply zaa|apply zab|apply zac)|exact HB.out)) hb); clear HB; have HB:=n0_; clear n0_; (try clear hb); (try clear hb2); (try clear hk); (try clear hi))|((with_reducible refine zaD (N:=1) rfl ?_); refine zaH ?hg (N:=1) ?hd (cs:=#[.string (⟨#[]⟩:ByteArray),.string (⟨#[]⟩:ByteArray)]) (t:=23) ?hr ?_; (case hd=>rfl); (case hg=>rfl); (case hr=>first|(go_simp; done)|(go_simp; rfl)); intro gb544 hg w8 hbox hb; have n0_:=Aside0.mk (zak (by repeat (first|(with_reducible first|exact HB.out|apply zaa|apply zab|apply zac)|exact HB.out)) hb); have n1_:=Aside0.mk (hbox); have n2_:=Aside0.mk ((by rw [hg]; exact (zan (by repeat (first|(with_reducible first|exact HB.out|apply zaa|apply zab|apply zac)|exact HB.out))):w.heap.size≤gb544)); have n3_:=Aside0.mk ((by rw [hg]; exact (zan (by repeat (first|(with_reducible first|exact HB.out|apply zaa|apply zab|apply zac)|exact HB.out))):w.heap.size≤gb544)); clear HB; have HB:=n0_; have BK544:=n1_; have GW544:=n2_; have GE544:=n3_; clear n0_ n1_ n2_ n3_; clear hb hbox hg; have hcz9_0:w8.cell? ⟨gb544,0,none⟩=some (.string (⟨#[]⟩:ByteArray)):=(zaf BK544.out 0).trans rfl; have hcz9_1:w8.cell? ⟨gb544,1,none⟩=some (.string (⟨#[]⟩:ByteArray)):=(zaf BK544.out 1).trans rfl; have hfz9_0:=zad BK544.out 0; have hfz9_1:=zad BK544.out 1)|((with_reducible refine zap (f:=31) rfl ?_); refine zaE (some 13) rfl rfl Tryz.func31 (by kernel_rfl) rfl #[.agg #[.string (⟨#[50,50]⟩:ByteArray),.string (⟨#[55]⟩:ByteArray)],.int .i64 4] rfl (by (try simp only [List.map_toArray,List.map_cons,List.map_nil]); first|done|rfl|(simp only [List.length_drop,List.length_take]; rfl)) ?_; (with_reducible refine (rat_Digits.calls (⟨#[50,50]⟩:ByteArray) (⟨#[55]⟩:ByteArray) 4 t545 t546 _ A2.out).mono ?_); rintro e w10 ⟨rfl,hb⟩; refine ⟨_,rfl,?_⟩; have n0_:=Aside0.mk (zaq (g:=gb544) (o:=.cells #[.string t540,.string t541] 23 (0,0)) (by (with_reducible repeat (first|refine zah ?_ _|refine zaj ?_|refine zai ?_ _)); refine zax (cs:=#[.string t540,.string (⟨#[]⟩:ByteArray)]) ?_ 1 _ rfl; (with_reducible repeat (first|refine zah ?_ _|refine zaj ?_|refine zai ?_ _)); refine zax (cs:=#[.string (⟨#[]⟩:ByteArray),.string (⟨#[]⟩:ByteArray)]) ?_ 0 _ rfl; (with_reducible repeat (first|refine zah ?_ _|refine zaj ?_|refine zai ?_ _)); exact BK544.out) hb); have n1_:=Aside0.mk (zak (by repeat (first|(with_reducible first|exact HB.out|apply zaa|apply zab|apply zac|refine zag ?_ GE544.out)|exact HB.out)) hb); clear BK544; clear HB; have BK544:=n0_; have HB:=n1_; clear n0_ n1_; (try clear hb); (try clear hb2); (try clear hk); (try clear hi); have hcz11_0:w10.cell? ⟨gb544,0,none⟩=some (.string t540):=(zaf BK544.out 0).trans rfl; have hcz11_1:w10.cell? ⟨gb544,1,none⟩=some (.string t541):=(zaf BK544.out 1).trans rfl; have hfz11_0:=zad BK544.out 0; have hfz11_1:=zad BK544.out 1))
     go_ret
     exact ⟨by first|rfl|(simp [zam,zal]<;>rfl)|(simp [*,zam,zal]<;>rfl),by repeat (first|(with_reducible first|exact HB.out|apply zaa|apply zab|apply zac|refine zag ?_ GE544.out)|exact HB.out)⟩
    ·rw [if_neg c6] at H
     exact absurd ((Option.some.inj H).trans hr) (by decide)
   ·rw [if_neg c5] at H
    exact absurd ((Option.some.inj H).trans hr) (by decide)
  ·rw [if_neg c4] at H
   exact absurd ((Option.some.inj H).trans hr) (by decide)
 ·rw [if_neg c3] at H
  exact absurd ((Option.some.inj H).trans hr) (by decide)
end Go.Proofs.ZQ
end
section
namespace Go.Proofs.ZQ
open Go.RowKit Go.Proofs.ZW.Wa
theorem awakeT_calls (r:Bool) (w:World) (h:l2_awake.f=some r) :
  Calls Tryz.prog 32 #[] w fun e w'=>e = .returned (.bool r)∧Below w.heap.size w w':=
 l2_awake.callsT r w h (Option.some.inj (h.symm.trans awake_f))
end Go.Proofs.ZQ
end
section
namespace Go.Proofs.ZQ
open Go.RowKit Go.Proofs.ZW.Wa Go.Proofs.ZP
theorem orders_walk (a0 a1 b0 b1 u2 v2 u3 v3:ByteArray) (n u0 u1 e0 e1 e2 e3:Int) (HC0:Ans 43 #[.agg #[.string a0,.string a1],.agg #[.string b0,.string b1]] (.tuple #[.int .i64 u0,.int .i64 e0])) (HD0:Ans 51 #[.agg #[.string a0,.string a1],.agg #[.string b0,.string b1]] (.tuple #[.int .i64 u0,.int .i64 e0])) (HC1:Ans 52 #[.agg #[.string a0,.string a1]] (.tuple #[.int .i64 u1,.int .i64 e1])) (HD1:Ans 51 #[.agg #[.string a0,.string a1],.agg #[.string ⟨#[48]⟩,.string ⟨#[49]⟩]] (.tuple #[.int .i64 u1,.int .i64 e1])) (HC2:Ans 53 #[.agg #[.string a0,.string a1]] (.tuple #[.agg #[.string u2,.string v2],.int .i64 e2])) (HD2:Ans 54 #[.agg #[.string a0,.string a1]] (.tuple #[.agg #[.string u2,.string v2],.int .i64 e2])) (HC3:Ans 55 #[.agg #[.string a0,.string a1],.int .i64 n] (.tuple #[.agg #[.string u3,.string v3],.int .i64 e3])) (HD3:Ans 56 #[.agg #[.string a0,.string a1],.int .i64 n] (.tuple #[.agg #[.string u3,.string v3],.int .i64 e3])) (HW:Ans 32 #[] (.bool true)):Ans 11 #[.agg #[.string a0,.string a1],.agg #[.string b0,.string b1],.int .i64 n] (.bool true):=by
 intro w
 have HC0:=Lib.hid HC0
 have HD0:=Lib.hid HD0
 have HC1:=Lib.hid HC1
 have HD1:=Lib.hid HD1
 have HC2:=Lib.hid HC2
 have HD2:=Lib.hid HD2
 have HC3:=Lib.hid HC3
 have HD3:=Lib.hid HD3
 have HW:=Lib.hid HW
 go_enter Tryz.func11,Tryz.ntmps11
 obtain ⟨fa,fb,hba⟩:=rb_two w a0 a1 b0 b1
 go_wp2_with fail
 generalize ((w.alloc (.cells #[.string a0,.string a1] 23)).alloc (.cells #[.string b0,.string b1] 23))=W0 at *
 generalize hBx:w.heap.size+1=B at *
 clear hBx
 have HFA:=Lib.hid fa
 have HFB:=Lib.hid fb
 have HBA:=Lib.hid hba
 clear fa fb hba
 refine (HC0.out _).mono ?_
 rintro e w0 ⟨rfl,hb⟩
 have fa:=HFA.out.below hb
 have fb:=HFB.out.below hb
 have p0:=fa.c0
 have p1:=fa.c1
 have p2:=fb.c0
 have p3:=fb.c1
 replace HFA:=Lib.hid fa
 replace HFB:=Lib.hid fb
 replace HBA:=Lib.hid (bthen HBA.out hb)
 clear fa fb hb
 go_wp2_with fail
 clear p0 p1 p2 p3
 refine (HD0.out _).mono ?_
 rintro e w1 ⟨rfl,hb⟩
 have fa:=HFA.out.below hb
 have fb:=HFB.out.below hb
 have p0:=fa.c0
 have p1:=fa.c1
 have p2:=fb.c0
 have p3:=fb.c1
 replace HFA:=Lib.hid fa
 replace HFB:=Lib.hid fb
 replace HBA:=Lib.hid (bthen HBA.out hb)
 clear fa fb hb
 go_wp2_with fail
 clear p0 p1 p2 p3
 refine (HC1.out _).mono ?_
 rintro e w2 ⟨rfl,hb⟩
 have fa:=HFA.out.below hb
 have fb:=HFB.out.below hb
 have p0:=fa.c0
 have p1:=fa.c1
 have p2:=fb.c0
 have p3:=fb.c1
 replace HFA:=Lib.hid fa
 replace HFB:=Lib.hid fb
 replace HBA:=Lib.hid (bthen HBA.out hb)
 clear fa fb hb
 go_wp2_with fail
 clear p0 p1 p2 p3
 refine (HD1.out _).mono ?_
 rintro e w3 ⟨rfl,hb⟩
 have fa:=HFA.out.below hb
 have fb:=HFB.out.below hb
 have p0:=fa.c0
 have p1:=fa.c1
 have p2:=fb.c0
 have p3:=fb.c1
 replace HFA:=Lib.hid fa
 replace HFB:=Lib.hid fb
 replace HBA:=Lib.hid (bthen HBA.out hb)
 clear fa fb hb
 go_wp2_with fail
 clear p0 p1 p2 p3
 refine (HC2.out _).mono ?_
 rintro e w5 ⟨rfl,hb⟩
 have fx:=RbAt.new w5 u2 v2
 have fa:=(HFA.out.below hb).alloc (.cells #[.string u2,.string v2] 23)
 have fb:=(HFB.out.below hb).alloc (.cells #[.string u2,.string v2] 23)
 have hB1:=bthen (bthen HBA.out hb) (zaa (Below.refl _ _) (.cells #[.string u2,.string v2] 23))
 have hd:w.heap.size≤w5.heap.size∧w.heap.size<w5.heap.size∧B<w5.heap.size:=⟨(bthen HBA.out hb).size,zas (HFA.out.below hb),zas (HFB.out.below hb)⟩
 have HD:=Lib.hid hd
 have HX:=Lib.hid fx
 replace HFA:=Lib.hid fa
 replace HFB:=Lib.hid fb
 replace HBA:=Lib.hid hB1
 have p0:=fa.c0
 have p1:=fa.c1
 clear fx fa fb hB1 hd hb
 go_wp2_with fail
 generalize w5.alloc (.cells #[.string u2,.string v2] 23)=w6 at *
 generalize w5.heap.size=X at *
 clear p0 p1
 refine (HD2.out _).mono ?_
 rintro e w7 ⟨rfl,hb⟩
 have hs:St4 w (w7.alloc (.cells #[.string u2,.string v2] 23)) w.heap.size B X w7.heap.size a0 a1 b0 b1 u2 v2 u2 v2:=⟨(HFA.out.below hb).alloc _,(HFB.out.below hb).alloc _,(HX.out.below hb).alloc _,RbAt.new w7 u2 v2,bthen (bthen HBA.out hb) (zaa (Below.refl _ _) _),⟨HD.out.1,HD.out.2.1,HD.out.2.2,zas (HX.out.below hb)⟩⟩
 have HS:=Lib.hid hs
 have p0:=hs.a.c0
 have p1:=hs.a.c1
 have p4:=hs.x.c0
 have p5:=hs.x.c1
 have p6:=hs.y.c0
 have p7:=hs.y.c1
 clear hs hb HX HFA HFB HBA HD
 go_wp2_with fail
 generalize w7.alloc (.cells #[.string u2,.string v2] 23)=w8 at *
 generalize w7.heap.size=Y at *
 clear p0 p1 p4 p5 p6 p7
 refine (HC3.out _).mono ?_
 rintro e wa ⟨rfl,hb⟩
 have hs:=HS.out.call hb
 have q0:=hs.x.c0
 have q1:=hs.x.c1
 have g0:=zad hs.x 0
 have g1:=zad hs.x 1
 have hp:=hs.putX u3 v3
 have p0:=hp.a.c0
 have p1:=hp.a.c1
 have p4:=hp.x.c0
 have p5:=hp.x.c1
 have p6:=hp.y.c0
 have p7:=hp.y.c1
 replace HS:=Lib.hid hp
 clear hs hp hb
 go_wp2_with fail
 generalize (wa.setCell ⟨X,0,none⟩ (.string u3)).setCell ⟨X,1,none⟩ (.string v3)=wb at *
 clear p0 p1 p4 p5 p6 p7 q0 q1 g0 g1
 refine (HD3.out _).mono ?_
 rintro e wa ⟨rfl,hb⟩
 have hs:=HS.out.call hb
 have q0:=hs.y.c0
 have q1:=hs.y.c1
 have g0:=zad hs.y 0
 have g1:=zad hs.y 1
 have hp:=hs.putY u3 v3
 have p0:=hp.a.c0
 have p1:=hp.a.c1
 have p4:=hp.x.c0
 have p5:=hp.x.c1
 have p6:=hp.y.c0
 have p7:=hp.y.c1
 replace HS:=Lib.hid hp
 clear hs hp hb
 go_wp2_with fail
 generalize (wa.setCell ⟨Y,0,none⟩ (.string u3)).setCell ⟨Y,1,none⟩ (.string v3)=wb at *
 clear p0 p1 p4 p5 p6 p7 q0 q1 g0 g1
 refine (HW.out _).mono ?_
 rintro e wz ⟨rfl,hbz⟩
 have HBF:=Lib.hid (HS.out.call hbz).hb
 clear hbz
 go_wp2
 go_ret
 exact ⟨rfl,HBF.out⟩
theorem cmp_some (a0 a1 b0 b1:ByteArray):∃ r1 r2,rat_Cmp.f a0 a1 b0 b1=some (r1,r2):=by
 by_cases h:(∃ x,RR a0 a1 x)∧∃ y,RR b0 b1 y
 ·obtain ⟨⟨x,hx⟩,y,hy⟩:=h
  exact ⟨_,_,zc5 hx hy⟩
 ·exact ⟨_,_,zcR h⟩
theorem RatOrders_any (a0 a1 b0 b1:ByteArray) (n:Int) (W:World) (h0 : -9223372036854775808≤n) (h1:n≤9223372036854775807) :
  Calls Tryz.prog 11 #[.agg #[.string a0,.string a1],.agg #[.string b0,.string b1],.int .i64 n] W fun e W'=>e = .returned (.bool true)∧Below W.heap.size W W':=by
 obtain ⟨u0,e0,k0⟩:=cmp_some a0 a1 b0 b1
 obtain ⟨u1,e1,k1⟩:=cmp_some a0 a1 ⟨#[48]⟩ ⟨#[49]⟩
 obtain ⟨u2,v2,e2,k2⟩:=oneF_some (fun x=>0) (fun x=>((x.floor:Int):Rat)) a0 a1
 obtain ⟨u3,v3,e3,k3⟩:=oneF_some (fun _=>if n < -600∨600<n then 1 else 0) (fun x=>((evenR (x*tenR n):Int):Rat)*tenR (-n)) a0 a1
 exact orders_walk a0 a1 b0 b1 u2 v2 u3 v3 n u0 u1 e0 e1 e2 e3 (fun W=>rat_Cmp.calls _ _ _ _ _ _ W k0) (cmp_ans _ _ _ _ _ _ k0) (fun W=>rat_Sign.calls _ _ _ _ W (sign_cmp _ _ _ k1)) (cmp_ans _ _ _ _ _ _ k1) (fun W=>rat_Floor.calls _ _ _ _ _ W k2) (floor_ans _ _ _ _ _ k2) (fun W=>rat_Round.calls _ _ _ _ _ _ W k3) (round_ans _ _ _ _ _ _ k3) (fun W=>awakeT_calls true W awake_f) W
end Go.Proofs.ZQ
end
