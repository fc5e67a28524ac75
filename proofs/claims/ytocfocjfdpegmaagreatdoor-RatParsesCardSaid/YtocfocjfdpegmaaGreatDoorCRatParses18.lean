/- Texts under the proof, joined by a program (prune.py): TAwake, QAwakeT, LawRatParses. -/
import Derived.Test.YtocfocjfdpegmaaGreatDoorCRatParses17
set_option linter.unusedVariables false
set_option linter.unusedSimpArgs false
set_option exponentiation.threshold 20001
set_option maxHeartbeats 8000000
set_option maxRecDepth 100000
section
namespace Go.Proofs.ZQ
open Go.RowKit Go.Proofs.ZW.Wa Go.Proofs.ZW.Wb Go.Proofs.ZW.Wc
attribute [local go_sem] zaH zaF zaW zaV zaA zaz zaG zaE
attribute [local go_sem high] eqA23
theorem l2_awake.callsT  (r:Bool) (w:World) (h:l2_awake.f  = some r) (hr:r=true) :
  Calls Tryz.prog 17 #[] w fun e w'=>e = .returned (.bool r)∧Below w.heap.size w w':=by
 have hu23:=Tryz.underlying23
 have HB:=Aside0.mk (Below.refl w.heap.size w)
 have H:((rat_Parse.f (⟨#[45,49,46,50,53,48,101,45,49]⟩:ByteArray)).bind fun bt285=>((rat_Digits.f (⟨#[50,50]⟩:ByteArray) (⟨#[55]⟩:ByteArray) 4).bind fun bt290=>(if bt285.2.2.1=0 then (if bt285.2.2.2=0 then (if (bt285.1.toList == ([45,49]:List UInt8) && (bt285.2.1.toList == ([56]:List UInt8)))=true then (if bt290.1.toList=([51,46,49,52,50,57]:List UInt8) then (some (bt290.2 == 0)) else (some false)) else (some false)) else (some false)) else (some false))))=some r:=h
 clear h
 replace H:=Option.bind_eq_some_iff.mp H
 obtain ⟨⟨t285,t286,t287,t288⟩,A10,H⟩:=H
 replace H:((rat_Digits.f (⟨#[50,50]⟩:ByteArray) (⟨#[55]⟩:ByteArray) 4).bind fun bt290=>(if t287=0 then (if t288=0 then (if (t285.toList == ([45,49]:List UInt8) && (t286.toList == ([56]:List UInt8)))=true then (if bt290.1.toList=([51,46,49,52,50,57]:List UInt8) then (some (bt290.2 == 0)) else (some false)) else (some false)) else (some false)) else (some false)))=some r:=H
 have A1:=Aside0.mk A10
 clear A10
 replace H:=Option.bind_eq_some_iff.mp H
 obtain ⟨⟨t290,t291⟩,A20,H⟩:=H
 replace H:(if t287=0 then (if t288=0 then (if (t285.toList == ([45,49]:List UInt8) && (t286.toList == ([56]:List UInt8)))=true then (if t290.toList=([51,46,49,52,50,57]:List UInt8) then (some (t291 == 0)) else (some false)) else (some false)) else (some false)) else (some false))=some r:=H
 have A2:=Aside0.mk A20
 clear A20
 by_cases c3:t287=0
 ·rw [if_pos c3] at H
  have c3b0:(t287 == 0)=true:=beq_iff_eq.mpr c3
  have c3b1:(t287 != 0)=false:=bne_eq_false_iff_eq.mpr c3
  clear c3
  by_cases c4:t288=0
  ·rw [if_pos c4] at H
   have c4b0:(t288 == 0)=true:=beq_iff_eq.mpr c4
   have c4b1:(t288 != 0)=false:=bne_eq_false_iff_eq.mpr c4
   clear c4
   by_cases c5:(t285.toList == ([45,49]:List UInt8) && (t286.toList == ([56]:List UInt8)))=true
   ·rw [if_pos c5] at H
    have c5b0:(t285.toList == ([45,49]:List UInt8) && (t286.toList == ([56]:List UInt8)))=true:=c5
    (try (have c5b1:decide (t285.toList=([45,49]:List UInt8) && (t286.toList == ([56]:List UInt8)))=true:=by simpa using c5))
    (try (have c5b2:(t285.toList == ([45,49]:List UInt8) && (t286.toList == ([56]:List UInt8)))=true:=by simpa using c5))
    clear c5
    by_cases c6:t290.toList=([51,46,49,52,50,57]:List UInt8)
    ·rw [if_pos c6] at H
     have c6b0:(t290.toList == ([51,46,49,52,50,57]:List UInt8))=true:=beq_iff_eq.mpr c6
     have c6b1:(t290.toList != ([51,46,49,52,50,57]:List UInt8))=false:=bne_eq_false_iff_eq.mpr c6
     clear c6
     obtain rfl:=Option.some.inj H; clear hr
     go_enter Tryz.func17,Tryz.ntmps17
     go_wp2_with (first|((with_reducible refine zaD (f:=45) rfl ?_); refine zbR (some 7) rfl rfl Tryz.func45 (by kernel_rfl) rfl #[.string (⟨#[45,49,46,50,53,48,101,45,49]⟩:ByteArray)] rfl (by (try simp only [List.map_toArray,List.map_cons,List.map_nil]); first|done|rfl|(simp only [List.length_drop,List.length_take]; rfl)) ?_; (with_reducible refine (rat_Parse.calls (⟨#[45,49,46,50,53,48,101,45,49]⟩:ByteArray) t285 t286 t287 t288 _ A1.out).mono ?_); rintro e w7 ⟨rfl,hb⟩; refine ⟨_,rfl,?_⟩; have n0_:=Aside0.mk (zar (by repeat (first|(with_reducible first|exact HB.out|apply zaa|apply zab|apply zae)|exact HB.out)) hb); clear HB; have HB:=n0_; clear n0_; (try clear hb); (try clear hb2); (try clear hk); (try clear hi))|((with_reducible refine za4 (N:=1) rfl ?_); refine zb4 ?hg (N:=1) ?hd (cs:=#[.string (⟨#[]⟩:ByteArray),.string (⟨#[]⟩:ByteArray)]) (t:=23) ?hr ?_; (case hd=>rfl); (case hg=>rfl); (case hr=>first|(go_simp; done)|(go_simp; rfl)); intro gb289 hg w8 hbox hb; have n0_:=Aside0.mk (zar (by repeat (first|(with_reducible first|exact HB.out|apply zaa|apply zab|apply zae)|exact HB.out)) hb); have n1_:=Aside0.mk (hbox); have n2_:=Aside0.mk ((by rw [hg]; exact (zaq (by repeat (first|(with_reducible first|exact HB.out|apply zaa|apply zab|apply zae)|exact HB.out))):w.heap.size≤gb289)); have n3_:=Aside0.mk ((by rw [hg]; exact (zaq (by repeat (first|(with_reducible first|exact HB.out|apply zaa|apply zab|apply zae)|exact HB.out))):w.heap.size≤gb289)); clear HB; have HB:=n0_; have BK289:=n1_; have GW289:=n2_; have GE289:=n3_; clear n0_ n1_ n2_ n3_; clear hb hbox hg; have hcz9_0:w8.cell? ⟨gb289,0,none⟩=some (.string (⟨#[]⟩:ByteArray)):=(zaf BK289.out 0).trans rfl; have hcz9_1:w8.cell? ⟨gb289,1,none⟩=some (.string (⟨#[]⟩:ByteArray)):=(zaf BK289.out 1).trans rfl; have hfz9_0:=zad BK289.out 0; have hfz9_1:=zad BK289.out 1)|((with_reducible refine zaD (f:=15) rfl ?_); refine zbR (some 13) rfl rfl Tryz.func15 (by kernel_rfl) rfl #[.agg #[.string (⟨#[50,50]⟩:ByteArray),.string (⟨#[55]⟩:ByteArray)],.int .i64 4] rfl (by (try simp only [List.map_toArray,List.map_cons,List.map_nil]); first|done|rfl|(simp only [List.length_drop,List.length_take]; rfl)) ?_; (with_reducible refine (rat_Digits.calls (⟨#[50,50]⟩:ByteArray) (⟨#[55]⟩:ByteArray) 4 t290 t291 _ A2.out).mono ?_); rintro e w10 ⟨rfl,hb⟩; refine ⟨_,rfl,?_⟩; have n0_:=Aside0.mk (zbG (g:=gb289) (o:=.cells #[.string t285,.string t286] 23 (0,0)) (by (with_reducible repeat (first|refine zal ?_ _|refine zan ?_|refine zam ?_ _)); refine zaL (cs:=#[.string t285,.string (⟨#[]⟩:ByteArray)]) ?_ 1 _ rfl; (with_reducible repeat (first|refine zal ?_ _|refine zan ?_|refine zam ?_ _)); refine zaL (cs:=#[.string (⟨#[]⟩:ByteArray),.string (⟨#[]⟩:ByteArray)]) ?_ 0 _ rfl; (with_reducible repeat (first|refine zal ?_ _|refine zan ?_|refine zam ?_ _)); exact BK289.out) hb); have n1_:=Aside0.mk (zar (by repeat (first|(with_reducible first|exact HB.out|apply zaa|apply zab|apply zae|refine zag ?_ GE289.out)|exact HB.out)) hb); clear BK289; clear HB; have BK289:=n0_; have HB:=n1_; clear n0_ n1_; (try clear hb); (try clear hb2); (try clear hk); (try clear hi); have hcz11_0:w10.cell? ⟨gb289,0,none⟩=some (.string t285):=(zaf BK289.out 0).trans rfl; have hcz11_1:w10.cell? ⟨gb289,1,none⟩=some (.string t286):=(zaf BK289.out 1).trans rfl; have hfz11_0:=zad BK289.out 0; have hfz11_1:=zad BK289.out 1))
     go_ret
     exact ⟨by first|rfl|(simp [zak,zaj]<;>rfl)|(simp [*,zak,zaj]<;>rfl),by repeat (first|(with_reducible first|exact HB.out|apply zaa|apply zab|apply zae|refine zag ?_ GE289.out)|exact HB.out)⟩
    ·rw [if_neg c6] at H
     exact absurd ((Option.some.inj H).trans hr) (by decide)
   ·rw [if_neg c5] at H
    exact absurd ((Option.some.inj H).trans hr) (by decide)
  ·rw [if_neg c4] at H
   exact absurd ((Option.some.inj H).trans hr) (by decide)
 ·rw [if_neg c3] at H
  exact absurd ((Option.some.inj H).trans hr) (by decide)
end Go.Proofs.ZQ
end
section
namespace Go.Proofs.ZQ
open Go.RowKit Go.Proofs.ZW.Wa
theorem awakeT_calls (r:Bool) (w:World) (h:l2_awake.f=some r) :
  Calls Tryz.prog 17 #[] w fun e w'=>e = .returned (.bool r)∧Below w.heap.size w w':=
 l2_awake.callsT r w h (Option.some.inj (h.symm.trans awake_f))
end Go.Proofs.ZQ
end
section
namespace Go.Proofs.ZQ
open Go.RowKit Go.Proofs.ZW.Wa Go.Proofs.ZP
theorem parses_walk (s:ByteArray) (u v:ByteArray) (e0 k0:Int) (HC0:Ans 45 #[.string s] (.tuple #[.agg #[.string u,.string v],.int .i64 e0,.int .i64 k0])) (HD0:Ans 46 #[.string s] (.tuple #[.agg #[.string u,.string v],.int .i64 e0,.int .i64 k0])) (HW:Ans 17 #[] (.bool true)):Ans 7 #[.string s] (.bool true):=by
 intro w
 have HC0:=Lib.hid HC0
 have HD0:=Lib.hid HD0
 have HW:=Lib.hid HW
 go_enter Tryz.func7,Tryz.ntmps7
 go_wp2_with fail
 refine (HC0.out _).mono ?_
 rintro e w1 ⟨rfl,hb1⟩
 have HX:=Lib.hid (RbAt.new w1 u v)
 have HBA:=Lib.hid (bthen hb1 (zaa (Below.refl _ _) (.cells #[.string u,.string v] 23)))
 clear hb1
 go_wp2_with fail
 generalize w1.alloc (.cells #[.string u,.string v] 23)=w2 at *
 generalize w1.heap.size=X at *
 refine (HD0.out _).mono ?_
 rintro e w3 ⟨rfl,hb3⟩
 have hx:=(HX.out.below hb3).alloc (.cells #[.string u,.string v] 23)
 have hy:=RbAt.new w3 u v
 have HBB:=Lib.hid (bthen (bthen HBA.out hb3) (zaa (Below.refl _ _) (.cells #[.string u,.string v] 23)))
 have p0:=hx.c0
 have p1:=hx.c1
 have p2:=hy.c0
 have p3:=hy.c1
 clear hx hy hb3 HX HBA
 go_wp2_with fail
 generalize w3.alloc (.cells #[.string u,.string v] 23)=w4 at *
 generalize w3.heap.size=Y at *
 clear p0 p1 p2 p3
 refine (HW.out _).mono ?_
 rintro e wz ⟨rfl,hbz⟩
 have HBF:=Lib.hid (bthen HBB.out hbz)
 clear hbz
 go_wp2
 go_ret
 exact ⟨rfl,HBF.out⟩
theorem RatParses_any (a0:ByteArray) (W:World) :
  Calls Tryz.prog 7 #[.string a0] W fun e W'=>e = .returned (.bool true)∧Below W.heap.size W W':=
 parses_walk a0 _ _ _ _ (fun W=>parse_walk a0 W) (parse_ans a0) (fun W=>awakeT_calls true W awake_f) W
end Go.Proofs.ZQ
end
