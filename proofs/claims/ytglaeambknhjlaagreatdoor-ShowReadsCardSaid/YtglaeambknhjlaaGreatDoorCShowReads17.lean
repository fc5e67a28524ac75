/- Texts under the proof, joined by a program (prune.py): Q221, Q222, QPure6, Q118, Q119, Q97, QFracOf, QShow3, QShow4, QShow5, QShow6, QShow7, QShow8, Q120, QFrac3, Q124. -/
import Derived.Test.YtglaeambknhjlaaGreatDoorCShowReads13
import Derived.Test.YtglaeambknhjlaaGreatDoorCShowReads11
import Derived.Test.YtglaeambknhjlaaGreatDoorCShowReads14
import Derived.Test.YtglaeambknhjlaaGreatDoorCShowReads15
import Derived.Test.YtglaeambknhjlaaGreatDoorCShowReads16
import Derived.Deep.CutRange
import Derived.Test.YtglaeambknhjlaaGreatDoorCShowReads05
set_option linter.unusedVariables false
set_option linter.unusedSimpArgs false
set_option exponentiation.threshold 20001
set_option maxHeartbeats 8000000
set_option maxRecDepth 100000
section
namespace Go.Proofs.ZQ
open Go.RowKit Go.Proofs.ZW.Wa Go.Proofs.ZW.Wb Go.Proofs.ZW.Wc
attribute [local go_sem] zaC zaB zaM zaL zaz zay zaF zaE
noncomputable def c2_Rounded.f (a0_0:Bool) (a0_1:ByteArray) (a0_2:ByteArray) (a1:Int):Option (Bool×ByteArray×ByteArray):=(c2_Steps.f a0_0 a0_1 a0_2 a1).bind fun t841=>(if a1≥0 then ((c2_Zeros.f a1).bind fun t842=>(if 1+t842.size≤9223372036854775807 then ((c2_Lowest.f a0_0 t841 ((⟨#[49]⟩:ByteArray)++t842)).bind fun bt843=>(some (bt843.1,bt843.2.1,bt843.2.2))) else (none))) else ((c2_Zeros.f (wrap64 (-a1))).bind fun t846=>(if 1+t846.size≤9223372036854775807 then ((c1_Times.f t841 ((⟨#[49]⟩:ByteArray)++t846)).bind fun t847=>((c2_Lowest.f a0_0 t847 (⟨#[49]⟩:ByteArray)).bind fun bt848=>(some (bt848.1,bt848.2.1,bt848.2.2)))) else (none))))
noncomputable def c2_Round.j0:Nat→Int→Bool→ByteArray→ByteArray→Option (ByteArray×ByteArray×Int)
 | 0,_,_,_,_=>none
 | k+1,x1,x15,x852000,x852001=>if x15=true then (some ((⟨#[]⟩:ByteArray),(⟨#[]⟩:ByteArray),1)) else ((c2_Read.f k x852000 x852001).bind fun bt854=>((c2_Rounded.f bt854.1 bt854.2.1 bt854.2.2 x1).bind fun bt857=>((c2_Told.f k bt857.1 bt857.2.1 bt857.2.2).bind fun bt860=>(some (bt860.1,bt860.2.1,bt860.2.2)))))
noncomputable def c2_Round.f (k:Nat) (a0_0:ByteArray) (a0_1:ByteArray) (a1:Int):Option (ByteArray×ByteArray×Int):=(c2_Right.f k a0_0 a0_1).bind fun t853=>(if t853=true then (if a1<(-600) then (c2_Round.j0 k a1 true a0_0 a0_1) else (c2_Round.j0 k a1 (decide (a1>600)) a0_0 a0_1)) else (some ((⟨#[]⟩:ByteArray),(⟨#[]⟩:ByteArray),3)))
end Go.Proofs.ZQ
end
section
namespace Go.Proofs.ZQ
open Go.RowKit Go.Proofs.ZW.Wa Go.Proofs.ZP
theorem tenR_neg (q:Nat) (hq:0<q):tenR (-(q:Int))=Rat.divInt 1 ((10^q:Nat):Int):=by
 unfold tenR
 rw [if_pos (by omega),Int.natAbs_neg,Int.natAbs_natCast,zc8]
 have hi:((((10:Int)^q:Int)):Rat).num=(10:Int)^q:=rfl
 have hj:((((10:Int)^q:Int)):Rat).den=1:=rfl
 rw [hi,hj,Int.natCast_pow]; rfl
theorem tenR_pos (q:Nat):tenR (q:Int)=Rat.divInt ((10^q:Nat):Int) 1:=by
 have h:tenR (q:Int)=(((10:Int)^q:Int):Rat):=by unfold tenR; rw [if_neg (by omega),Int.natAbs_natCast]
 rw [h,zcy,Int.natCast_pow]; rfl
end Go.Proofs.ZQ
end
section
namespace Go.Proofs.ZQ
open Go.RowKit Go.Proofs.ZW.Wa Go.Proofs.ZW.Wb Go.Proofs.ZW.Wc
attribute [local go_sem] zaC zaB zaM zaL zaz zay zaF zaE
noncomputable def c5_ten.f (a0:Int):Option (Bool×ByteArray×ByteArray):=if a0<0 then ((c1_Power.f (⟨#[49,48]⟩:ByteArray) (wrap64 (-a0))).bind fun t340=>(some (false,(⟨#[49]⟩:ByteArray),t340))) else ((c1_Power.f (⟨#[49,48]⟩:ByteArray) a0).bind fun t341=>(some (false,t341,(⟨#[49]⟩:ByteArray))))
noncomputable def c5_exponent.l0:Nat→Int→Bool→ByteArray→ByteArray→Option (Int)
 | 0,_,_,_,_=>none
 | k+1,x3,x343000,x343001,x343002=>(c5_ten.f x3).bind fun bt343=>((c1_FCmp.f x343000 x343001 x343002 bt343.1 bt343.2.1 bt343.2.2).bind fun t346=>(if t346≥0 then (some x3) else (c5_exponent.l0 k (wrap64 (x3-1)) x343000 x343001 x343002)))
noncomputable def c5_exponent.f (k:Nat) (a0_0:Bool) (a0_1:ByteArray) (a0_2:ByteArray):Option (Int):=c5_exponent.l0 k (wrap64 ((a0_1.size:Int)-(a0_2.size:Int))) a0_0 a0_1 a0_2
noncomputable def c1_Whole.f (a0:Int):Option (Bool×ByteArray×ByteArray):=if a0<0 then ((c1_Of.f (IntKind.u64.wrap (wrap64 (-(wrap64 (a0+1)))))).bind fun t233=>((c1_Plus.f t233 (⟨#[49]⟩:ByteArray)).bind fun t234=>(some (true,t234,(⟨#[49]⟩:ByteArray))))) else ((c1_Of.f (IntKind.u64.wrap (a0))).bind fun t235=>(some (false,t235,(⟨#[49]⟩:ByteArray))))
theorem c1_Whole.calls (a0:Int) (r1:Bool) (r2:ByteArray) (r3:ByteArray) (w:World) (h:c1_Whole.f a0=some (r1,r2,r3)) :
  Calls Tryz.prog 86 #[.int .i64 a0] w fun e w'=>e = .returned (.agg #[.bool r1,.string r2,.string r3])∧Below w.heap.size w w':=by
 have hu28:=Tryz.underlying28
 have HB:=Aside0.mk (Below.refl w.heap.size w)
 have H:(if a0<0 then ((c1_Of.f (IntKind.u64.wrap (wrap64 (-(wrap64 (a0+1)))))).bind fun t233=>((c1_Plus.f t233 (⟨#[49]⟩:ByteArray)).bind fun t234=>(some (true,t234,(⟨#[49]⟩:ByteArray))))) else ((c1_Of.f (IntKind.u64.wrap (a0))).bind fun t235=>(some (false,t235,(⟨#[49]⟩:ByteArray)))))=some (r1,r2,r3):=h
 clear h
 by_cases c2:a0<0
 ·rw [if_pos c2] at H
  have c2b0:decide (a0<0)=true:=decide_eq_true c2
  clear c2
  replace H:=Option.bind_eq_some_iff.mp H
  obtain ⟨t233,A30,H⟩:=H
  replace H:((c1_Plus.f t233 (⟨#[49]⟩:ByteArray)).bind fun t234=>(some (true,t234,(⟨#[49]⟩:ByteArray))))=some (r1,r2,r3):=H
  have A3:=Aside0.mk A30
  clear A30
  replace H:=Option.bind_eq_some_iff.mp H
  obtain ⟨t234,A40,H⟩:=H
  replace H:(some (true,t234,(⟨#[49]⟩:ByteArray)))=some (r1,r2,r3):=H
  have A4:=Aside0.mk A40
  clear A40
  simp only [Option.some.injEq,Prod.mk.injEq] at H
  obtain ⟨rfl,rfl,rfl⟩:=H
  go_enter Tryz.func86,Tryz.ntmps86
  go_wp2_with (first|((with_reducible refine zaG (N:=2) rfl ?_); refine zaI ?hg (N:=2) ?hd (cs:=#[.bool false,.string (⟨#[]⟩:ByteArray),.string (⟨#[]⟩:ByteArray)]) (t:=28) ?hr ?_; (case hd=>rfl); (case hg=>rfl); (case hr=>first|(go_simp; done)|(go_simp; rfl)); intro gb232 hg w5 hbox hb; have n0_:=Aside0.mk (zam (by repeat (first|(with_reducible first|exact HB.out|apply zaa|apply zab|apply zac)|exact HB.out)) hb); have n1_:=Aside0.mk (hbox); have n2_:=Aside0.mk ((by rw [hg]; exact (zal (by repeat (first|(with_reducible first|exact HB.out|apply zaa|apply zab|apply zac)|exact HB.out))):w.heap.size≤gb232)); have n3_:=Aside0.mk ((by rw [hg]; exact (zal (by repeat (first|(with_reducible first|exact HB.out|apply zaa|apply zab|apply zac)|exact HB.out))):w.heap.size≤gb232)); clear HB; have HB:=n0_; have BK232:=n1_; have GW232:=n2_; have GE232:=n3_; clear n0_ n1_ n2_ n3_; clear hb hbox hg)|((with_reducible refine zav (f:=148) rfl ?_); refine za5 (some 10) rfl rfl Tryz.func148 (by kernel_rfl) rfl #[.int .u64 (IntKind.u64.wrap (wrap64 (-(wrap64 (a0+1)))))] rfl (by (try simp only [List.map_toArray,List.map_cons,List.map_nil]); first|done|rfl|(simp only [List.length_drop,List.length_take]; rfl)) ?_; (with_reducible refine (c1_Of.calls (IntKind.u64.wrap (wrap64 (-(wrap64 (a0+1))))) t233 _ A3.out).mono ?_); rintro e w6 ⟨rfl,hb⟩; refine ⟨_,rfl,?_⟩; have n0_:=Aside0.mk (zat (g:=gb232) (o:=.cells #[.bool false,.string (⟨#[]⟩:ByteArray),.string (⟨#[]⟩:ByteArray)] 28 (0,0)) (by (with_reducible repeat (first|refine zah ?_ _|refine zaj ?_|refine zai ?_ _)); exact BK232.out) hb); have n1_:=Aside0.mk (zam (by repeat (first|(with_reducible first|exact HB.out|apply zaa|apply zab|apply zac|refine zaf ?_ GE232.out)|exact HB.out)) hb); clear BK232; clear HB; have BK232:=n0_; have HB:=n1_; clear n0_ n1_; (try clear hb); (try clear hb2); (try clear hk); (try clear hi))|((with_reducible refine zav (f:=129) rfl ?_); refine za5 (some 12) rfl rfl Tryz.func129 (by kernel_rfl) rfl #[.string t233,.string (⟨#[49]⟩:ByteArray)] rfl (by (try simp only [List.map_toArray,List.map_cons,List.map_nil]); first|done|rfl|(simp only [List.length_drop,List.length_take]; rfl)) ?_; (with_reducible refine (c1_Plus.calls t233 (⟨#[49]⟩:ByteArray) t234 _ A4.out).mono ?_); rintro e w7 ⟨rfl,hb⟩; refine ⟨_,rfl,?_⟩; have n0_:=Aside0.mk (zat (g:=gb232) (o:=.cells #[.bool false,.string (⟨#[]⟩:ByteArray),.string (⟨#[]⟩:ByteArray)] 28 (0,0)) (by (with_reducible repeat (first|refine zah ?_ _|refine zaj ?_|refine zai ?_ _)); exact BK232.out) hb); have n1_:=Aside0.mk (zam (by repeat (first|(with_reducible first|exact HB.out|apply zaa|apply zab|apply zac|refine zaf ?_ GE232.out)|exact HB.out)) hb); clear BK232; clear HB; have BK232:=n0_; have HB:=n1_; clear n0_ n1_; (try clear hb); (try clear hb2); (try clear hk); (try clear hi); have hcz8_0:w7.cell? ⟨gb232,0,none⟩=some (.bool false):=(zag BK232.out 0).trans rfl; have hcz8_1:w7.cell? ⟨gb232,1,none⟩=some (.string (⟨#[]⟩:ByteArray)):=(zag BK232.out 1).trans rfl; have hcz8_2:w7.cell? ⟨gb232,2,none⟩=some (.string (⟨#[]⟩:ByteArray)):=(zag BK232.out 2).trans rfl; have hfz8_0:=zae BK232.out 0; have hfz8_1:=zae BK232.out 1; have hfz8_2:=zae BK232.out 2))
  refine bodyPost_ret (results_cell_row rfl _ _ gb232 28 #[.bool true,.string t234,.string (⟨#[49]⟩:ByteArray)] (0,0) _ rfl (by (with_reducible repeat (first|refine zah ?_ _|refine zaj ?_|refine zai ?_ _)); refine zaS (cs:=#[.bool true,.string t234,.string (⟨#[]⟩:ByteArray)]) ?_ 2 _ rfl; (with_reducible repeat (first|refine zah ?_ _|refine zaj ?_|refine zai ?_ _)); refine zaS (cs:=#[.bool true,.string (⟨#[]⟩:ByteArray),.string (⟨#[]⟩:ByteArray)]) ?_ 1 _ rfl; (with_reducible repeat (first|refine zah ?_ _|refine zaj ?_|refine zai ?_ _)); refine zaS (cs:=#[.bool false,.string (⟨#[]⟩:ByteArray),.string (⟨#[]⟩:ByteArray)]) ?_ 0 _ rfl; (with_reducible repeat (first|refine zah ?_ _|refine zaj ?_|refine zai ?_ _)); exact BK232.out) Tryz.underlying28 rfl (by kernel_rfl)) rfl ?_
  exact ⟨by first|rfl|(simp [zao,zan]<;>rfl)|(simp [*,zao,zan]<;>rfl),by repeat (first|(with_reducible first|exact HB.out|apply zaa|apply zab|apply zac|refine zaf ?_ GE232.out)|exact HB.out)⟩
 ·rw [if_neg c2] at H
  have c2b0:decide (a0<0)=false:=decide_eq_false c2
  clear c2
  replace H:=Option.bind_eq_some_iff.mp H
  obtain ⟨t235,A90,H⟩:=H
  replace H:(some (false,t235,(⟨#[49]⟩:ByteArray)))=some (r1,r2,r3):=H
  have A9:=Aside0.mk A90
  clear A90
  simp only [Option.some.injEq,Prod.mk.injEq] at H
  obtain ⟨rfl,rfl,rfl⟩:=H
  go_enter Tryz.func86,Tryz.ntmps86
  go_wp2_with (first|((with_reducible refine zaG (N:=2) rfl ?_); refine zaI ?hg (N:=2) ?hd (cs:=#[.bool false,.string (⟨#[]⟩:ByteArray),.string (⟨#[]⟩:ByteArray)]) (t:=28) ?hr ?_; (case hd=>rfl); (case hg=>rfl); (case hr=>first|(go_simp; done)|(go_simp; rfl)); intro gb232 hg w10 hbox hb; have n0_:=Aside0.mk (zam (by repeat (first|(with_reducible first|exact HB.out|apply zaa|apply zab|apply zac)|exact HB.out)) hb); have n1_:=Aside0.mk (hbox); have n2_:=Aside0.mk ((by rw [hg]; exact (zal (by repeat (first|(with_reducible first|exact HB.out|apply zaa|apply zab|apply zac)|exact HB.out))):w.heap.size≤gb232)); have n3_:=Aside0.mk ((by rw [hg]; exact (zal (by repeat (first|(with_reducible first|exact HB.out|apply zaa|apply zab|apply zac)|exact HB.out))):w.heap.size≤gb232)); clear HB; have HB:=n0_; have BK232:=n1_; have GW232:=n2_; have GE232:=n3_; clear n0_ n1_ n2_ n3_; clear hb hbox hg)|((with_reducible refine zav (f:=148) rfl ?_); refine za5 (some 16) rfl rfl Tryz.func148 (by kernel_rfl) rfl #[.int .u64 (IntKind.u64.wrap (a0))] rfl (by (try simp only [List.map_toArray,List.map_cons,List.map_nil]); first|done|rfl|(simp only [List.length_drop,List.length_take]; rfl)) ?_; (with_reducible refine (c1_Of.calls (IntKind.u64.wrap (a0)) t235 _ A9.out).mono ?_); rintro e w11 ⟨rfl,hb⟩; refine ⟨_,rfl,?_⟩; have n0_:=Aside0.mk (zat (g:=gb232) (o:=.cells #[.bool false,.string (⟨#[]⟩:ByteArray),.string (⟨#[]⟩:ByteArray)] 28 (0,0)) (by (with_reducible repeat (first|refine zah ?_ _|refine zaj ?_|refine zai ?_ _)); exact BK232.out) hb); have n1_:=Aside0.mk (zam (by repeat (first|(with_reducible first|exact HB.out|apply zaa|apply zab|apply zac|refine zaf ?_ GE232.out)|exact HB.out)) hb); clear BK232; clear HB; have BK232:=n0_; have HB:=n1_; clear n0_ n1_; (try clear hb); (try clear hb2); (try clear hk); (try clear hi); have hcz12_0:w11.cell? ⟨gb232,0,none⟩=some (.bool false):=(zag BK232.out 0).trans rfl; have hcz12_1:w11.cell? ⟨gb232,1,none⟩=some (.string (⟨#[]⟩:ByteArray)):=(zag BK232.out 1).trans rfl; have hcz12_2:w11.cell? ⟨gb232,2,none⟩=some (.string (⟨#[]⟩:ByteArray)):=(zag BK232.out 2).trans rfl; have hfz12_0:=zae BK232.out 0; have hfz12_1:=zae BK232.out 1; have hfz12_2:=zae BK232.out 2))
  refine bodyPost_ret (results_cell_row rfl _ _ gb232 28 #[.bool false,.string t235,.string (⟨#[49]⟩:ByteArray)] (0,0) _ rfl (by (with_reducible repeat (first|refine zah ?_ _|refine zaj ?_|refine zai ?_ _)); refine zaS (cs:=#[.bool false,.string t235,.string (⟨#[]⟩:ByteArray)]) ?_ 2 _ rfl; (with_reducible repeat (first|refine zah ?_ _|refine zaj ?_|refine zai ?_ _)); refine zaS (cs:=#[.bool false,.string (⟨#[]⟩:ByteArray),.string (⟨#[]⟩:ByteArray)]) ?_ 1 _ rfl; (with_reducible repeat (first|refine zah ?_ _|refine zaj ?_|refine zai ?_ _)); refine zaS (cs:=#[.bool false,.string (⟨#[]⟩:ByteArray),.string (⟨#[]⟩:ByteArray)]) ?_ 0 _ rfl; (with_reducible repeat (first|refine zah ?_ _|refine zaj ?_|refine zai ?_ _)); exact BK232.out) Tryz.underlying28 rfl (by kernel_rfl)) rfl ?_
  exact ⟨by first|rfl|(simp [zao,zan]<;>rfl)|(simp [*,zao,zan]<;>rfl),by repeat (first|(with_reducible first|exact HB.out|apply zaa|apply zab|apply zac|refine zaf ?_ GE232.out)|exact HB.out)⟩
end Go.Proofs.ZQ
end
section
namespace Go.Proofs.ZQ
open Go.RowKit Go.Proofs.ZW.Wa Go.Proofs.ZP Go.Proofs.ZW.Wb Go.Proofs.ZW.Wc
theorem fc_start (w:World) (a b t:ByteArray) (s:Bool):FcAt (((w.alloc (.cells #[.string a,.string b] 23)).alloc (.cells #[.bool false,.string ⟨#[]⟩,.string ⟨#[]⟩] 28)).alloc (.cells #[.bool s,.string t,.string b] 28)) (w.heap.size+1) false ⟨#[]⟩ ⟨#[]⟩∧FcAt (((w.alloc (.cells #[.string a,.string b] 23)).alloc (.cells #[.bool false,.string ⟨#[]⟩,.string ⟨#[]⟩] 28)).alloc (.cells #[.bool s,.string t,.string b] 28)) (w.heap.size+1+1) s t b∧Below w.heap.size w (((w.alloc (.cells #[.string a,.string b] 23)).alloc (.cells #[.bool false,.string ⟨#[]⟩,.string ⟨#[]⟩] 28)).alloc (.cells #[.bool s,.string t,.string b] 28)):=by
  refine ⟨?_,?_,zaa (zaa (zaa (Below.refl _ _) _) _) _⟩
  · have h:=(FcAt.new (w.alloc (.cells #[.string a,.string b] 23)) false ⟨#[]⟩ ⟨#[]⟩).alloc (.cells #[.bool s,.string t,.string b] 28)
    rw [World.size_alloc] at h
    exact h
  · have h:=FcAt.new ((w.alloc (.cells #[.string a,.string b] 23)).alloc (.cells #[.bool false,.string ⟨#[]⟩,.string ⟨#[]⟩] 28)) s t b
    rw [World.size_alloc,World.size_alloc] at h
    exact h
theorem spl_head {a:ByteArray} (hp:0<a.size):(((a[0]'hp).toNat:Int) == 45)=(spl a).1:=by
  have e1:a[0]'hp=a.data.toList[0]'(by rw [zak]; exact hp):=rfl
  have e2:a.data.toList.head? = some (a[0]'hp):=by rw [e1,List.head?_eq_getElem?,List.getElem?_eq_getElem]
  unfold spl
  rw [e2]
  by_cases h:a[0]'hp=45
  · rw [if_pos (by rw [h]),h]; rfl
  · rw [if_neg (fun e=>h (Option.some.inj e)),beq_eq_false_iff_ne]
    intro e
    exact h (UInt8.toNat_inj.1 (by show _=45; omega))
def FOf (s r1 r2 z m:Bool) (t b g:ByteArray) (res:Value):Prop:=res=if r1=true∧r2=true∧z=false∧(s=true→m=false)∧g.toList=([49]:List UInt8) then .tuple #[.agg #[.bool s,.string t,.string b],.bool true] else .tuple #[.agg #[.bool false,.string (T 0),.string (T 1)],.bool false]
def FCom (r1 r2:Bool) (t b g:ByteArray):Prop:=r1=true→r2=true→Ans 95 #[.string t,.string b] (.string g)
theorem FOf.r1 {s r2 z m:Bool} {t b g:ByteArray} {res:Value} (h:FOf s false r2 z m t b g res):res = .tuple #[.agg #[.bool false,.string (T 0),.string (T 1)],.bool false]:=h.trans (if_neg (fun h=>absurd h.1 (by decide)))
theorem FOf.r2 {s r1 z m:Bool} {t b g:ByteArray} {res:Value} (h:FOf s r1 false z m t b g res):res = .tuple #[.agg #[.bool false,.string (T 0),.string (T 1)],.bool false]:=h.trans (if_neg (fun h=>absurd h.2.1 (by decide)))
theorem FOf.z {s r1 r2 m:Bool} {t b g:ByteArray} {res:Value} (h:FOf s r1 r2 true m t b g res):res = .tuple #[.agg #[.bool false,.string (T 0),.string (T 1)],.bool false]:=h.trans (if_neg (fun h=>absurd h.2.2.1 (by decide)))
theorem FOf.m {r1 r2 z:Bool} {t b g:ByteArray} {res:Value} (h:FOf true r1 r2 z true t b g res):res = .tuple #[.agg #[.bool false,.string (T 0),.string (T 1)],.bool false]:=h.trans (if_neg (fun h=>absurd (h.2.2.2.1 rfl) (by decide)))
theorem FOf.g {s r1 r2 z m:Bool} {t b g:ByteArray} {res:Value} (hg:g.toList≠([49]:List UInt8)) (h:FOf s r1 r2 z m t b g res):res = .tuple #[.agg #[.bool false,.string (T 0),.string (T 1)],.bool false]:=h.trans (if_neg (fun h=>hg h.2.2.2.2))
theorem FOf.yes {s m:Bool} {t b g:ByteArray} {res:Value} (hg:g.toList=([49]:List UInt8)) (hm:s=true→m=false) (h:FOf s true true false m t b g res):res = .tuple #[.agg #[.bool s,.string t,.string b],.bool true]:=h.trans (if_pos ⟨rfl,rfl,rfl,hm,hg⟩)
theorem fracof_walk (a b t : ByteArray) (s r1 r2 z m : Bool) (g : ByteArray) (res : Value) (hs : spl a = (s, t)) (hz : (b.toList == ([48] : List UInt8)) = z) (hm : (t.toList == ([48] : List UInt8)) = m) (H1 : Ans 94 #[.string t] (.bool r1)) (H2 : Ans 94 #[.string b] (.bool r2)) (HC : FCom r1 r2 t b g) (HW : Ans 86 #[.int .i64 0] (.agg #[.bool false, .string (T 0), .string (T 1)]))
    (hv:FOf s r1 r2 z m t b g res) :
    Ans 22 #[.agg #[.string a,.string b]] res:=by
  intro w
  have H1:=Lib.hid H1
  have H2:=Lib.hid H2
  have HC:=Lib.hid HC
  have HW:=Lib.hid HW
  have HZ:=Lib.hid hz
  have HM:=Lib.hid hm
  have HV:=Lib.hid hv
  have hcases:(s=false∧t=a∧¬ 0<a.size)∨(s=false∧t=a∧∃ hp:0<a.size,(((a[0]'hp).toNat:Int) == 45)=false)∨(s=true∧t=a.extract 1 a.size∧∃ hp:0<a.size,(((a[0]'hp).toNat:Int) == 45)=true):=by
    cases s
    · have k:t=a:=by
        have h1:(spl a).1=false:=by rw [hs]
        have k:=spl_pos h1
        rw [hs] at k
        exact k
      by_cases hp:0<a.size
      · exact Or.inr (Or.inl ⟨rfl,k,hp,by rw [spl_head hp,hs]⟩)
      · exact Or.inl ⟨rfl,k,hp⟩
    · have h1:(spl a).1=true:=by rw [hs]
      obtain ⟨k1,k2⟩:=spl_neg h1
      have hp:0<a.size:=by
        rw [k1,ByteArray.size_append]
        show 0<1+_
        omega
      rw [hs] at k2
      exact Or.inr (Or.inr ⟨rfl,k2,hp,by rw [spl_head hp,hs]⟩)
  clear hs hz hm hv
  obtain ⟨fr,fx,hba⟩:=fc_start w a b t s
  have HR0:=Lib.hid fr
  have HX0:=Lib.hid fx
  have HB0:=Lib.hid hba
  clear fr fx hba
  rcases hcases with ⟨rfl,rfl,hp⟩|⟨rfl,rfl,hp,hb⟩|⟨rfl,rfl,hp,hb⟩
  all_goals
    try (have hp1:(1:Int)≤(a.size:Int):=by omega)
    go_enter Tryz.func22,Tryz.ntmps22
    go_wp2_with fail
    generalize World.alloc _ _=W0 at *
    have HGE:=Lib.hid (show w.heap.size≤w.heap.size+1 by omega)
    generalize hX:w.heap.size+1+1=X at *
    generalize hR:w.heap.size+1=RB at *
    have HX:=HX0
    have HR:=HR0
    have HB:=HB0
    clear HX0 HR0 HB0 hX hR
    try clear hb
    try clear hp1
    try clear hp
    have c0:=HX.out.c0
    have c1:=HX.out.c1
    have c2:=HX.out.c2
    refine (H1.out _).mono ?_
    rintro e w1 ⟨rfl,hb⟩
    replace HX:=Lib.hid (HX.out.below hb)
    replace HR:=Lib.hid (HR.out.below hb)
    replace HB:=Lib.hid (bthen HB.out hb)
    clear hb c0 c1 c2
    have c0:=HX.out.c0
    have c1:=HX.out.c1
    have c2:=HX.out.c2
    cases r1
    · have HE:=Lib.hid (FOf.r1 HV.out)
      go_wp2_with fail
      refine (HW.out _).mono ?_
      rintro e wz ⟨rfl,hbz⟩
      have HR9:=Lib.hid (HR.out.below hbz)
      have HB9:=Lib.hid (bthen HB.out hbz)
      clear hbz
      have g0:=HR9.out.c0
      have g1:=HR9.out.c1
      have g2:=HR9.out.c2
      have k0:=zae HR9.out 0
      have k1:=zae HR9.out 1
      have k2:=zae HR9.out 2
      obtain ⟨hF,hBF⟩:=fc_put HR9.out HB9.out HGE.out false (T 0) (T 1)
      have HF:=Lib.hid hF
      have HBF:=Lib.hid hBF
      clear hF hBF
      go_wp2
      refine bodyPost_ret (zba rfl _ _ RB 28 #[.bool false,.string (T 0),.string (T 1)] (0,0) _ rfl HF.out Tryz.underlying28 rfl (by kernel_rfl)) rfl ?_
      exact ⟨congrArg Ending.returned HE.out.symm,HBF.out⟩
    go_wp2_with fail
    refine (H2.out _).mono ?_
    rintro e w2 ⟨rfl,hb⟩
    replace HX:=Lib.hid (HX.out.below hb)
    replace HR:=Lib.hid (HR.out.below hb)
    replace HB:=Lib.hid (bthen HB.out hb)
    clear hb c0 c1 c2
    have c0:=HX.out.c0
    have c1:=HX.out.c1
    have c2:=HX.out.c2
    cases r2
    · have HE:=Lib.hid (FOf.r2 HV.out)
      go_wp2_with fail
      refine (HW.out _).mono ?_
      rintro e wz ⟨rfl,hbz⟩
      have HR9:=Lib.hid (HR.out.below hbz)
      have HB9:=Lib.hid (bthen HB.out hbz)
      clear hbz
      have g0:=HR9.out.c0
      have g1:=HR9.out.c1
      have g2:=HR9.out.c2
      have k0:=zae HR9.out 0
      have k1:=zae HR9.out 1
      have k2:=zae HR9.out 2
      obtain ⟨hF,hBF⟩:=fc_put HR9.out HB9.out HGE.out false (T 0) (T 1)
      have HF:=Lib.hid hF
      have HBF:=Lib.hid hBF
      clear hF hBF
      go_wp2
      refine bodyPost_ret (zba rfl _ _ RB 28 #[.bool false,.string (T 0),.string (T 1)] (0,0) _ rfl HF.out Tryz.underlying28 rfl (by kernel_rfl)) rfl ?_
      exact ⟨congrArg Ending.returned HE.out.symm,HBF.out⟩
    have hz:=HZ.out
    cases z
    rotate_left
    · have HE:=Lib.hid (FOf.z HV.out)
      go_wp2_with fail
      refine (HW.out _).mono ?_
      rintro e wz ⟨rfl,hbz⟩
      have HR9:=Lib.hid (HR.out.below hbz)
      have HB9:=Lib.hid (bthen HB.out hbz)
      clear hbz
      have g0:=HR9.out.c0
      have g1:=HR9.out.c1
      have g2:=HR9.out.c2
      have k0:=zae HR9.out 0
      have k1:=zae HR9.out 1
      have k2:=zae HR9.out 2
      obtain ⟨hF,hBF⟩:=fc_put HR9.out HB9.out HGE.out false (T 0) (T 1)
      have HF:=Lib.hid hF
      have HBF:=Lib.hid hBF
      clear hF hBF
      go_wp2
      refine bodyPost_ret (zba rfl _ _ RB 28 #[.bool false,.string (T 0),.string (T 1)] (0,0) _ rfl HF.out Tryz.underlying28 rfl (by kernel_rfl)) rfl ?_
      exact ⟨congrArg Ending.returned HE.out.symm,HBF.out⟩
    have hm:=HM.out
    have HC:=Lib.hid ((show FCom true true _ _ _ from HC.out) rfl rfl)
    by_cases hg:g.toList=([49]:List UInt8)
    · have hgb : (g.toList != ([49] : List UInt8)) = false := by simpa using hg
      cases m
      all_goals
        go_wp2_with fail
        first
        | (have HE := Lib.hid (FOf.m HV.out)
           refine (HW.out _).mono ?_
           rintro e wz ⟨rfl,hbz⟩
           have HR9:=Lib.hid (HR.out.below hbz)
           have HB9:=Lib.hid (bthen HB.out hbz)
           clear hbz
           have g0:=HR9.out.c0
           have g1:=HR9.out.c1
           have g2:=HR9.out.c2
           have k0:=zae HR9.out 0
           have k1:=zae HR9.out 1
           have k2:=zae HR9.out 2
           obtain ⟨hF,hBF⟩:=fc_put HR9.out HB9.out HGE.out false (T 0) (T 1)
           have HF:=Lib.hid hF
           have HBF:=Lib.hid hBF
           clear hF hBF
           go_wp2
           refine bodyPost_ret (zba rfl _ _ RB 28 #[.bool false,.string (T 0),.string (T 1)] (0,0) _ rfl HF.out Tryz.underlying28 rfl (by kernel_rfl)) rfl ?_
           exact ⟨congrArg Ending.returned HE.out.symm,HBF.out⟩
          )
        | (have HE := Lib.hid (FOf.yes hg (by first | exact fun _ => rfl | exact fun e => absurd e (by decide)) HV.out)
           refine (HC.out _).mono ?_
           rintro e w3 ⟨rfl,hb⟩
           replace HX:=Lib.hid (HX.out.below hb)
           replace HR:=Lib.hid (HR.out.below hb)
           replace HB:=Lib.hid (bthen HB.out hb)
           clear hb c0 c1 c2
           have c0:=HX.out.c0
           have c1:=HX.out.c1
           have c2:=HX.out.c2
           have g0:=HR.out.c0
           have g1:=HR.out.c1
           have g2:=HR.out.c2
           have k0:=zae HR.out 0
           have k1:=zae HR.out 1
           have k2:=zae HR.out 2
           first
           | (obtain ⟨hF, hBF⟩ := fc_put HR.out HB.out HGE.out false t b
              have HF:=Lib.hid hF
              have HBF:=Lib.hid hBF
              clear hF hBF
              go_wp2
              refine bodyPost_ret (zba rfl _ _ RB 28 #[.bool false,.string t,.string b] (0,0) _ rfl HF.out Tryz.underlying28 rfl (by kernel_rfl)) rfl ?_
              exact ⟨congrArg Ending.returned HE.out.symm,HBF.out⟩)
           | (obtain ⟨hF, hBF⟩ := fc_put HR.out HB.out HGE.out true (a.extract 1 a.size) b
              have HF:=Lib.hid hF
              have HBF:=Lib.hid hBF
              clear hF hBF
              go_wp2
              refine bodyPost_ret (zba rfl _ _ RB 28 #[.bool true,.string (a.extract 1 a.size),.string b] (0,0) _ rfl HF.out Tryz.underlying28 rfl (by kernel_rfl)) rfl ?_
              exact ⟨congrArg Ending.returned HE.out.symm,HBF.out⟩))
    · have hgb : (g.toList != ([49] : List UInt8)) = true := by simpa using hg
      have hgb2:(g.toList == ([49]:List UInt8))=false:=by simpa using hg
      have HE:=Lib.hid (FOf.g hg HV.out)
      cases m
      all_goals
        go_wp2_with fail
        first
        | (skip
           refine (HW.out _).mono ?_
           rintro e wz ⟨rfl,hbz⟩
           have HR9:=Lib.hid (HR.out.below hbz)
           have HB9:=Lib.hid (bthen HB.out hbz)
           clear hbz
           have g0:=HR9.out.c0
           have g1:=HR9.out.c1
           have g2:=HR9.out.c2
           have k0:=zae HR9.out 0
           have k1:=zae HR9.out 1
           have k2:=zae HR9.out 2
           obtain ⟨hF,hBF⟩:=fc_put HR9.out HB9.out HGE.out false (T 0) (T 1)
           have HF:=Lib.hid hF
           have HBF:=Lib.hid hBF
           clear hF hBF
           go_wp2
           refine bodyPost_ret (zba rfl _ _ RB 28 #[.bool false,.string (T 0),.string (T 1)] (0,0) _ rfl HF.out Tryz.underlying28 rfl (by kernel_rfl)) rfl ?_
           exact ⟨congrArg Ending.returned HE.out.symm,HBF.out⟩
          )
        | (refine (HC.out _).mono ?_
           rintro e w3 ⟨rfl,hb⟩
           replace HX:=Lib.hid (HX.out.below hb)
           replace HR:=Lib.hid (HR.out.below hb)
           replace HB:=Lib.hid (bthen HB.out hb)
           clear hb c0 c1 c2
           have c0:=HX.out.c0
           have c1:=HX.out.c1
           have c2:=HX.out.c2
           go_wp2_with fail
           refine (HW.out _).mono ?_
           rintro e wz ⟨rfl,hbz⟩
           have HR9:=Lib.hid (HR.out.below hbz)
           have HB9:=Lib.hid (bthen HB.out hbz)
           clear hbz
           have g0:=HR9.out.c0
           have g1:=HR9.out.c1
           have g2:=HR9.out.c2
           have k0:=zae HR9.out 0
           have k1:=zae HR9.out 1
           have k2:=zae HR9.out 2
           obtain ⟨hF,hBF⟩:=fc_put HR9.out HB9.out HGE.out false (T 0) (T 1)
           have HF:=Lib.hid hF
           have HBF:=Lib.hid hBF
           clear hF hBF
           go_wp2
           refine bodyPost_ret (zba rfl _ _ RB 28 #[.bool false,.string (T 0),.string (T 1)] (0,0) _ rfl HF.out Tryz.underlying28 rfl (by kernel_rfl)) rfl ?_
           exact ⟨congrArg Ending.returned HE.out.symm,HBF.out⟩
          )
theorem whole0:c1_Whole.f 0=some (false,T 0,T 1):=by
  unfold c1_Whole.f c1_Of.f
  rw [if_neg (by decide)]
  have e:IntKind.u64.wrap 0=0:=rfl
  rw [e,if_pos (by decide),Option.bind_some,T_1]; rfl
theorem T_is1 (n:Nat):(T n).toList=([49]:List UInt8)↔n=1:=by
  have hb:=b49 (s:=T n)
  constructor
  · intro e
    have h9:decide (T n=T 1)=true:=by rw [←hb,e]; rfl
    exact T_inj (of_decide_eq_true h9)
  · intro e
    have h9:=hb.trans (decide_eq_true (by rw [e]))
    simpa using h9
theorem z48 (s:ByteArray):((s.toList == ([48]:List UInt8))=false)↔s≠T 0:=by
  rw [beq_eq_false_iff_ne,Ne,b48]
theorem fracof_any (a b:ByteArray):Ans 22 #[.agg #[.string a,.string b]] (if coreB (spl a).1 (spl a).2 b=true then .tuple #[.agg #[.bool (spl a).1,.string (spl a).2,.string b],.bool true] else .tuple #[.agg #[.bool false,.string (T 0),.string (T 1)],.bool false]):=by
  refine fracof_walk a b (spl a).2 (spl a).1 (rightB (spl a).2) (rightB b) _ _ (T (Nat.gcd (dval (spl a).2.data.toList) (dval b.data.toList))) _ rfl rfl rfl (fun W=>c1_Right.calls _ _ W rfl) (fun W=>c1_Right.calls _ _ W rfl) (fun h1 h2 => ?_) (fun W=>c1_Whole.calls 0 _ _ _ W whole0) ?_
  · obtain ⟨m,hm,hm2⟩:=right_iff.1 h1
    obtain ⟨n,hn,hn2⟩:=right_iff.1 h2
    have sm:=(zas (k:=600) (by decide)).2 hm2
    have sn:=(zas (k:=600) (by decide)).2 hn2
    rw [hm,hn,za8,za8]
    exact fun W=>c1_Common.calls _ _ _ W (Common_T (by omega) (by omega))
  · unfold FOf
    have e:(coreB (spl a).1 (spl a).2 b=true)=(rightB (spl a).2=true∧rightB b=true∧(b.toList == ([48]:List UInt8))=false∧((spl a).1=true→((spl a).2.toList == ([48]:List UInt8))=false)∧(T (Nat.gcd (dval (spl a).2.data.toList) (dval b.data.toList))).toList=([49]:List UInt8)):=by
      rw [z48,z48,T_is1]
      unfold coreB
      simp only [Bool.and_eq_true,decide_eq_true_eq,and_assoc]
    simp only [e]
theorem zci {a b:ByteArray} {x:Rat} (h:RR a b x):Ans 22 #[.agg #[.string a,.string b]] (.tuple #[FrV x,.bool true]):=by
  have h1:=fracof_any a b
  have hs:spl a=(decide (x.num<0),T x.num.natAbs):=by
    rw [h.num]
    have e:=spl_wtext (decide (x.num<0)) x.num.natAbs (fun e=>by have:=of_decide_eq_true e; omega)
    rw [zcF] at e
    exact e
  rw [if_pos ((core_iff a b).2 ⟨x,h⟩),hs,h.den] at h1
  rw [h.den]
  exact h1
theorem zdx {a b:ByteArray} (h:¬ ∃ x,RR a b x):Ans 22 #[.agg #[.string a,.string b]] (.tuple #[.agg #[.bool false,.string (T 0),.string (T 1)],.bool false]):=by
  have h1:=fracof_any a b
  rw [core_no h,if_neg (by decide)] at h1
  exact h1
end Go.Proofs.ZQ
end
section
namespace Go.Proofs.ZQ
open Go.RowKit Go.Proofs.ZW.Wa Go.Proofs.ZP Go.Proofs.ZW.Wb Go.Proofs.ZW.Wc
attribute [local go_sem] zaC zaB zaM zaL
theorem repeat_calls (c:Nat) (w:World) (hc:c≤100000):Calls Tryz.prog 99 #[.string ⟨#[48]⟩,.int .i64 c] w fun e w'=>e = .returned (.string (zer c))∧Below w.heap.size w w':=by
 rcases (show c=0∨c=1∨2≤c by omega) with rfl|rfl|h2
 ·refine (Tryz.strings_Repeat_zero ⟨#[48]⟩ w).mono ?_
  rintro e w' ⟨he,rfl⟩
  exact ⟨he,Below.refl _ _⟩
 ·refine (Tryz.strings_Repeat_one ⟨#[48]⟩ w).mono ?_
  rintro e w' ⟨he,rfl⟩
  exact ⟨he,Below.refl _ _⟩
 ·refine (Tryz.strings_Repeat_main ⟨#[48]⟩ c w h2 (by omega) (by show 1*c≤_; omega) (by decide)).mono ?_
  rintro e w' ⟨he,hb⟩
  refine ⟨he.trans ?_,hb⟩
  have hrl:∀ c,Lib.repeatL [(48:UInt8)] c=List.replicate c 48:=fun c=>by
   induction c with
   | zero=>rfl
   | succ n ih=>simp [Lib.repeatL,ih,List.replicate_succ]
  unfold zer
  rw [show (⟨#[48]⟩:ByteArray).data.toList = [48] from rfl,hrl]
def plcR (d:ByteArray) (e:Int) (it:ByteArray):ByteArray:=
 if e < -5∨max (d.size:Int) 6≤e then ((if 1<d.size then d.extract 0 1++((⟨#[46]⟩:ByteArray)++d.extract 1 d.size) else d.extract 0 1)++(⟨#[101]⟩:ByteArray))++it
 else if e<0 then ((⟨#[48,46]⟩:ByteArray)++zer (-e-1).toNat)++d
 else if (d.size:Int)-1≤e then d++zer (e-d.size+1).toNat
 else (d.extract 0 (e+1).toNat++(⟨#[46]⟩:ByteArray))++d.extract (e+1).toNat d.size
theorem placed_exp (d it:ByteArray) (e:Int) (w:World) (hd:1≤d.size∧d.size≤5000) (hit:it.size≤1000) (he:e < -5∨max (d.size:Int) 6≤e) (hl : -100000≤e∧e≤100000) (HI:Calls Tryz.prog 170 #[.int .i64 e] w fun r w'=>r = .returned (.string it)∧Below w.heap.size w w') :
  Calls Tryz.prog 92 #[.string d,.int .i64 e] w fun r w'=>r = .returned (.string (plcR d e it))∧Below w.heap.size w w':=by
 have HV:=Lib.hid (show plcR d e it=_ from if_pos he)
 have HI:=Lib.hid HI
 have hle1:(1:Int)≤(d.size:Int):=by omega
 have hx0:(d.extract 0 1).size=1:=by rw [ByteArray.size_extract]; omega
 have hx1:(d.extract 1 d.size).size=d.size-1:=by rw [ByteArray.size_extract]; omega
 have hs1:(⟨#[46]⟩:ByteArray).size+(d.extract 1 d.size).size≤9223372036854775807:=by rw [hx1]; show 1+_≤_; omega
 have hs2:(d.extract 0 1).size+((⟨#[46]⟩:ByteArray)++d.extract 1 d.size).size≤9223372036854775807:=by rw [ByteArray.size_append,hx0,hx1]; show 1+(1+_)≤_; omega
 rcases (show (e < -5∨(¬ e < -5∧(d.size:Int)<6)∨(¬ e < -5∧¬ (d.size:Int)<6)) by omega) with h5|⟨h5,h6⟩|⟨h5,h6⟩<;>rcases (show (d.size:Int)>1∨¬ (d.size:Int)>1 by omega) with h1|h1
 all_goals
  try (have h7:e≥6:=by omega)
  try (have h8:e≥(d.size:Int):=by omega)
  go_enter Tryz.func92,Tryz.ntmps92
  go_wp2_with fail
  refine HI.out.mono ?_
  rintro r w1 ⟨rfl,hb⟩
  have HB:=Lib.hid hb
  clear hb
  go_wp2
  go_ret
  exact ⟨by rw [HV.out]; first|(rw [if_pos (by omega)]; rfl)|(rw [if_neg (by omega)]; rfl),HB.out⟩
theorem placed_low (d it:ByteArray) (e:Int) (w:World) (hd:1≤d.size∧d.size≤5000) (he : -5≤e∧e<0) :
  Calls Tryz.prog 92 #[.string d,.int .i64 e] w fun r w'=>r = .returned (.string (plcR d e it))∧Below w.heap.size w w':=by
 have hne:¬ (e < -5∨max (d.size:Int) 6≤e):=by omega
 have HV:=Lib.hid (show plcR d e it=_ from (if_neg hne).trans (if_pos he.2))
 obtain ⟨c,hc⟩:∃ c:Nat,-e-1=(c:Int):=⟨(-e-1).toNat,by omega⟩
 have HR:=Lib.hid (fun W=>repeat_calls c W (by omega))
 have hcz:(-e-1).toNat=c:=by omega
 rw [hcz] at HV
 have hzs:=zcO c
 have hw1:wrap64 (-e) = -e:=by unfold wrap64; omega
 have hw2:wrap64 (-e-1) = -e-1:=by unfold wrap64; omega
 have hs1:(⟨#[48,46]⟩:ByteArray).size+(zer c).size≤9223372036854775807:=by rw [hzs]; show 2+_≤_; omega
 have hs2:2+(zer c).size≤9223372036854775807:=by rw [hzs]; omega
 have hs3:2+(zer c).size+d.size≤9223372036854775807:=by rw [hzs]; omega
 have hs4:((⟨#[48,46]⟩:ByteArray)++zer c).size+d.size≤9223372036854775807:=by rw [ByteArray.size_append,hzs]; show 2+_+_≤_; omega
 have HC:=Lib.hid hc
 have h5:¬ e < -5:=by omega
 have h6:¬ e≥6:=by omega
 have h7:¬ e≥(d.size:Int):=by omega
 have h8:e<0:=he.2
 clear hne hc hcz hzs
 rcases (show (d.size:Int)<6∨¬ (d.size:Int)<6 by omega) with h9|h9
 all_goals
  go_enter Tryz.func92,Tryz.ntmps92
  go_wp2_with fail
  rw [HC.out]
  refine (HR.out _).mono ?_
  rintro r w1 ⟨rfl,hb⟩
  have HB:=Lib.hid hb
  clear hb
  go_wp2
  go_ret
  exact ⟨by rw [HV.out]; rfl,HB.out⟩
theorem placed_long (d it:ByteArray) (e:Int) (w:World) (hd:1≤d.size∧d.size≤5000) (he:0≤e∧e<max (d.size:Int) 6) (hl:(d.size:Int)-1≤e) :
  Calls Tryz.prog 92 #[.string d,.int .i64 e] w fun r w'=>r = .returned (.string (plcR d e it))∧Below w.heap.size w w':=by
 have hne:¬ (e < -5∨max (d.size:Int) 6≤e):=by omega
 have HV:=Lib.hid (show plcR d e it=_ from (if_neg hne).trans ((if_neg (by omega)).trans (if_pos hl)))
 obtain ⟨c,hc⟩:∃ c:Nat,e-d.size+1=(c:Int):=⟨(e-d.size+1).toNat,by omega⟩
 have HR:=Lib.hid (fun W=>repeat_calls c W (by omega))
 have hcz:(e-d.size+1).toNat=c:=by omega
 rw [hcz] at HV
 have hzs:=zcO c
 have hw0:wrap64 ((d.size:Int)-1)=(d.size:Int)-1:=by unfold wrap64; omega
 have hw1:wrap64 (e-d.size)=e-d.size:=by unfold wrap64; omega
 have hw2:wrap64 (e-d.size+1)=e-d.size+1:=by unfold wrap64; omega
 have hs3:d.size+(zer c).size≤9223372036854775807:=by rw [hzs]; omega
 have h5:¬ e < -5:=by omega
 have h8:¬ e<0:=by omega
 have hlt:e<6∨e<(d.size:Int):=by omega
 have hl':e≥(d.size:Int)-1:=hl
 have HC:=Lib.hid hc
 clear hne hc hcz hzs
 rcases (show ((d.size:Int)<6∧¬ e≥6)∨(¬ (d.size:Int)<6∧¬ e≥(d.size:Int)) by omega) with ⟨h9,h10⟩|⟨h9,h10⟩
 all_goals
  go_enter Tryz.func92,Tryz.ntmps92
  go_wp2_with fail
  rw [HC.out]
  refine (HR.out _).mono ?_
  rintro r w1 ⟨rfl,hb⟩
  have HB:=Lib.hid hb
  clear hb
  go_wp2
  go_ret
  exact ⟨by rw [HV.out]; rfl,HB.out⟩
theorem placed_mid (d it:ByteArray) (e:Int) (w:World) (hd:1≤d.size∧d.size≤5000) (he:0≤e∧e<max (d.size:Int) 6) (hl:¬ (d.size:Int)-1≤e) :
  Calls Tryz.prog 92 #[.string d,.int .i64 e] w fun r w'=>r = .returned (.string (plcR d e it))∧Below w.heap.size w w':=by
 have hne:¬ (e < -5∨max (d.size:Int) 6≤e):=by omega
 have HV:=Lib.hid (show plcR d e it=_ from (if_neg hne).trans ((if_neg (by omega)).trans (if_neg hl)))
 obtain ⟨K,hK⟩:∃ K:Nat,e+1=(K:Int):=⟨(e+1).toNat,by omega⟩
 have hkt:(e+1).toNat=K:=by omega
 rw [hkt] at HV
 have hw0:wrap64 ((d.size:Int)-1)=(d.size:Int)-1:=by unfold wrap64; omega
 have hw1:wrap64 (e+1)=(K:Int):=by rw [hK]; unfold wrap64; omega
 have hw2:IntKind.i64.wrap (e+1)=(K:Int):=by rw [hK]; exact IntWalk.i64_in _ (by omega)
 have hk0:(0:Int)≤(K:Int):=by omega
 have hk1:(K:Int)≤(d.size:Int):=by omega
 have hx0:(d.extract 0 K).size=K:=by rw [ByteArray.size_extract]; omega
 have hx1:(d.extract K d.size).size=d.size-K:=by rw [ByteArray.size_extract]; omega
 have hs1:(d.extract 0 K).size+1≤9223372036854775807:=by rw [hx0]; omega
 have hs2:((d.extract 0 K)++(⟨#[46]⟩:ByteArray)).size+(d.extract K d.size).size≤9223372036854775807:=by rw [ByteArray.size_append,hx0,hx1]; show K+1+_≤_; omega
 have hs3:(d.extract 0 K).size+1+(d.extract K d.size).size≤9223372036854775807:=by rw [hx0,hx1]; omega
 have hs4:min K d.size+1≤9223372036854775807:=by omega
 have hs5:min K d.size+1+(d.size-K)≤9223372036854775807:=by omega
 have h5:¬ e < -5:=by omega
 have h8:¬ e<0:=by omega
 have hl':¬ e≥(d.size:Int)-1:=hl
 have h11:e<6∨e<(d.size:Int):=by omega
 clear hne hx0 hx1 hkt hl he hd hK
 rcases (show ((d.size:Int)<6∧¬ e≥6)∨(¬ (d.size:Int)<6∧¬ e≥(d.size:Int)) by omega) with ⟨h9,h10⟩|⟨h9,h10⟩
 all_goals
  go_enter Tryz.func92,Tryz.ntmps92
  go_wp2_with fail
  first|(go_region_held (fun _=>True) (exact trivial) ((first|fail)))|fail
  all_goals
   go_wp2
   go_ret
   exact ⟨by rw [HV.out]; rfl,zar (Below.refl _ _)⟩
end Go.Proofs.ZQ
end
section
namespace Go.Proofs.ZQ
open Go.RowKit Go.Proofs.ZW.Wa Go.Proofs.ZP Go.Proofs.ZW.Wb Go.Proofs.ZW.Wc
theorem placed_calls (d it:ByteArray) (e:Int) (w:World) (hd:1≤d.size∧d.size≤5000) (hit:it.size≤1000) (hl : -100000≤e∧e≤100000) (HI:Calls Tryz.prog 170 #[.int .i64 e] w fun r w'=>r = .returned (.string it)∧Below w.heap.size w w') :
  Calls Tryz.prog 92 #[.string d,.int .i64 e] w fun r w'=>r = .returned (.string (plcR d e it))∧Below w.heap.size w w':=by
 by_cases h1:e < -5∨max (d.size:Int) 6≤e
 ·exact placed_exp d it e w hd hit h1 hl HI
 ·by_cases h2:e<0
  ·exact placed_low d it e w hd (by omega)
  ·by_cases h3:(d.size:Int)-1≤e
   ·exact placed_long d it e w hd (by omega) h3
   ·exact placed_mid d it e w hd (by omega) h3
theorem below_ans {a b:ByteArray} {x:Rat} (h:RR a b x):Ans 88 #[.agg #[.string a,.string b]] (.bool (decide (x.num<0))):=by
 intro w
 have hp:0<a.size:=by
  rw [h.num,←zak]
  by_cases hn:x.num<0
  ·rw [zb9 hn,ByteArray.data_append,Array.toList_append]; simp
  ·rw [zaK (by omega)]; exact (T_can _).1
 have hb:(((a[0]'hp).toNat:Int) == 45)=decide (x.num<0):=by
  have e1:a[0]'hp=a.data.toList[0]'(by rw [zak]; exact hp):=rfl
  have hl:a.data.toList=(wtext x.num).data.toList:=by rw [h.num]
  by_cases hn:x.num<0
  ·have h2:a.data.toList=45 :: (T x.num.natAbs).data.toList:=by rw [hl,zb9 hn,ByteArray.data_append,Array.toList_append]; rfl
   have e2:a[0]'hp=45:=by rw [e1]; simp [h2]
   rw [e2,decide_eq_true hn]; rfl
  ·have h2:a.data.toList=(T x.num.natAbs).data.toList:=by rw [hl,zaK (by omega)]
   have h3:a[0]'hp∈(T x.num.natAbs).data.toList:=by rw [←h2,e1]; exact List.getElem_mem _
   have h4:=(T_can x.num.natAbs).2.1 _ h3
   rw [decide_eq_false hn,beq_eq_false_iff_ne]
   omega
 have hlt:(0:Int)<(a.size:Int):=by omega
 have HB:=Lib.hid hb
 clear hb
 go_enter Tryz.func88,Tryz.ntmps88
 have hba:=zaa (Below.refl w.heap.size w) (.cells #[.string a,.string b] 23)
 have HBA:=Lib.hid hba
 clear hba
 go_wp2
 go_ret
 exact ⟨by rw [←HB.out]; rfl,HBA.out⟩
theorem rat_right_no {a b:ByteArray} (h:¬ ∃ x,RR a b x):Ans 35 #[.agg #[.string a,.string b]] (.bool false):=fun W=>right_walk a b false W ⟨fun e=>by (cases e),fun e=>absurd e h⟩
theorem number_no (a b:ByteArray) (n:Int) (HA:Ans 35 #[.agg #[.string a,.string b]] (.bool false)):Ans 19 #[.agg #[.string a,.string b],.int .i64 n] (.tuple #[.string ⟨#[]⟩,.int .i64 3]):=by
 intro w
 have HA:=Lib.hid HA
 go_enter Tryz.func19,Tryz.ntmps19
 have fa:=RbAt.new w a b
 have hba:=zaa (Below.refl w.heap.size w) (.cells #[.string a,.string b] 23)
 go_wp2_with fail
 generalize w.alloc (.cells #[.string a,.string b] 23)=W0 at *
 have HFA:=Lib.hid fa
 have HBA:=Lib.hid hba
 clear fa hba
 refine (HA.out _).mono ?_
 rintro e w1 ⟨rfl,hb⟩
 replace HFA:=Lib.hid (HFA.out.below hb)
 replace HBA:=Lib.hid (bthen HBA.out hb)
 clear hb
 go_wp2
 go_ret2
 exact ⟨rfl,HBA.out⟩
theorem number_zero (a b:ByteArray) (n:Int) (h0:1≤n) (h1:n≤40) (hz:a.toList=([48]:List UInt8)) (HA:Ans 35 #[.agg #[.string a,.string b]] (.bool true)):Ans 19 #[.agg #[.string a,.string b],.int .i64 n] (.tuple #[.string ⟨#[48]⟩,.int .i64 0]):=by
 have k1:¬ n<1:=by omega
 have k2:¬ n>40:=by omega
 have hzb:(a.toList == ([48]:List UInt8))=true:=by simpa using hz
 clear h0 h1 hz
 intro w
 have HA:=Lib.hid HA
 go_enter Tryz.func19,Tryz.ntmps19
 have fa:=RbAt.new w a b
 have hba:=zaa (Below.refl w.heap.size w) (.cells #[.string a,.string b] 23)
 go_wp2_with fail
 generalize w.alloc (.cells #[.string a,.string b] 23)=W0 at *
 have HFA:=Lib.hid fa
 have HBA:=Lib.hid hba
 clear fa hba
 refine (HA.out _).mono ?_
 rintro e w1 ⟨rfl,hb⟩
 replace HFA:=Lib.hid (HFA.out.below hb)
 replace HBA:=Lib.hid (bthen HBA.out hb)
 clear hb
 have c0:=HFA.out.c0
 go_wp2
 go_ret2
 exact ⟨rfl,HBA.out⟩
theorem zdH (x:Rat):x.abs.num=(x.num.natAbs:Int)∧x.abs.den=x.den:=by
 unfold Rat.abs
 split
 ·rename_i h
  have:=Rat.num_nonneg.2 h
  exact ⟨by omega,rfl⟩
 ·rename_i h
  have h2:x.num<0:=by
   rcases Int.lt_or_le x.num 0 with h3|h3
   ·exact h3
   ·exact absurd (Rat.num_nonneg.1 h3) h
  exact ⟨by rw [Rat.neg_num]; omega,rfl⟩
theorem rnd_size {x:Rat} {n:Int} (hs:Sz 600 x) (hb:Bdr 2000 x) (hn:1≤n∧n≤40):1≤(rndR x n).1.size∧(rndR x n).1.size≤5000:=by
 have hel:=expR_le hs
 have hm:=bd_even ((hb.mul (Bdr.tenR (n-1-expR x))).mono (show 2000+(4*(n-1-expR x).natAbs+1)≤4801 by omega))
 have hsz:(wtext (evenR (x*tenR (n-1-expR x)))).size≤4803∧1≤(wtext (evenR (x*tenR (n-1-expR x)))).size:=by
  generalize evenR (x*tenR (n-1-expR x))=m at *
  have h1:(T m.natAbs).size≤4802:=(zas (k:=4802) (by decide)).2 (Nat.lt_of_lt_of_le hm (Nat.pow_le_pow_left (show 2≤10 by decide) 4802))
  have h2:=zaN m.natAbs
  by_cases hx:m<0
  ·rw [zb9 hx,ByteArray.size_append]
   have:(⟨#[45]⟩:ByteArray).size=1:=rfl
   omega
  ·rw [zaK (by omega)]; omega
 unfold rndR
 dsimp only
 generalize wtext (evenR (x*tenR (n-1-expR x)))=s at *
 split
 ·rename_i h
  show 1≤(s.extract 0 n.toNat).size∧(s.extract 0 n.toNat).size≤5000
  rw [ByteArray.size_extract]
  omega
 ·show 1≤s.size∧s.size≤5000
  omega
theorem plc_size {d it:ByteArray} {e:Int} (hd:1≤d.size∧d.size≤5000) (hit:it.size≤1000) (hl : -100000≤e∧e≤100000):(plcR d e it).size≤1000000:=by
 have h1:(⟨#[46]⟩:ByteArray).size=1:=rfl
 have h2:(⟨#[101]⟩:ByteArray).size=1:=rfl
 have h3:(⟨#[48,46]⟩:ByteArray).size=2:=rfl
 unfold plcR
 split
 ·split<;>(simp only [ByteArray.size_append,ByteArray.size_extract,h1,h2]; omega)
 ·split
  ·simp only [ByteArray.size_append,zcO,h3]; omega
  ·split
   ·simp only [ByteArray.size_append,zcO]; omega
   ·simp only [ByteArray.size_append,ByteArray.size_extract,h1]; omega
theorem number_ok (a b it:ByteArray) (x:Rat) (n:Int) (w:World) (h0:1≤n) (h1:n≤40) (hx:RR a b x) (hz:x≠0) (hit:it.size≤1000) (HI:∀ W,Below w.heap.size w W→Calls Tryz.prog 170 #[.int .i64 (rndR x.abs n).2] W fun r w'=>r = .returned (.string it)∧Below W.heap.size W w') :
  Calls Tryz.prog 19 #[.agg #[.string a,.string b],.int .i64 n] w fun r w'=>r = .returned (.tuple #[.string ((if x.num<0 then (⟨#[45]⟩:ByteArray) else ⟨#[]⟩)++plcR (rndR x.abs n).1 (rndR x.abs n).2 it),.int .i64 0])∧Below w.heap.size w w':=by
 have HA:=zcu hx
 have HBl:=Lib.hid (below_ans hx)
 have HRd:=Lib.hid (fun W=>fread_yes hx W)
 obtain ⟨e1,e2⟩:=zdH x
 have hn0:=num_ne hz
 have hsz:Sz 600 x.abs:=by unfold Sz; rw [e1,e2,Int.natAbs_natCast]; exact rr_sz hx
 have hbd:Bdr 2000 x.abs:=⟨by rw [e1]; exact hx.bd.1.abs,by rw [e2]; exact hx.bd.2⟩
 have hpos:0<x.abs.num:=by rw [e1]; omega
 have HBX:=Lib.hid hx.bd
 have hel:=expR_le hsz
 have hrs:=rnd_size (n:=n) hsz hbd ⟨h0,h1⟩
 have hr2 : -100000≤(rndR x.abs n).2∧(rndR x.abs n).2≤100000:=by
  unfold rndR; dsimp only; split<;>(dsimp only; omega)
 have HRo:=Lib.hid (fun W g (h:RatAt W g x.abs)=>rounded_calls g x.abs n W h hpos hsz hbd ⟨h0,h1⟩)
 have HI:=Lib.hid HI
 have HPl:=Lib.hid (fun W (h:Below w.heap.size w W)=>placed_calls (rndR x.abs n).1 it (rndR x.abs n).2 W hrs hit hr2 (HI.out W h))
 have hzb:(a.toList == ([48]:List UInt8))=false:=by
  rw [beq_eq_false_iff_ne]; exact fun e=>hz ((rr_zero hx).1 e)
 have k1:¬ n<1:=by omega
 have k2:¬ n>40:=by omega
 have HPS:=Lib.hid (plc_size (d:=(rndR x.abs n).1) (e:=(rndR x.abs n).2) hrs hit hr2)
 clear h0 h1 hx hz hit e1 e2 hn0 hsz hbd hpos hel hrs hr2
 generalize (rndR x.abs n).1=d at *
 generalize (rndR x.abs n).2=e at *
 generalize plcR d e it=pl at *
 have hbool:decide (x.num<0)=true∨decide (x.num<0)=false:=by cases decide (x.num<0)<;>simp
 revert HA
 intro HA
 have HA:=Lib.hid HA
 go_enter Tryz.func19,Tryz.ntmps19
 have fa:=RbAt.new w a b
 have hba:=zaa (Below.refl w.heap.size w) (.cells #[.string a,.string b] 23)
 go_wp2_with fail
 generalize w.alloc (.cells #[.string a,.string b] 23)=W0 at *
 have HFA:=Lib.hid fa
 have HBA:=Lib.hid hba
 clear fa hba
 refine (HA.out _).mono ?_
 rintro e w1 ⟨rfl,hb⟩
 replace HFA:=Lib.hid (HFA.out.below hb)
 replace HBA:=Lib.hid (bthen HBA.out hb)
 clear hb
 have c0:=HFA.out.c0
 have c1:=HFA.out.c1
 go_wp2_with fail
 refine (HBl.out _).mono ?_
 rintro e3 w2 ⟨rfl,hb⟩
 have f2:=HFA.out.below hb
 clear c0 c1
 have c0:=f2.c0
 have c1:=f2.c1
 replace HBA:=Lib.hid (bthen HBA.out hb)
 clear hb
 have hp1:=HPS.out
 have hp2:1+pl.size≤9223372036854775807:=by omega
 have hp3:(⟨#[45]⟩:ByteArray).size+pl.size≤9223372036854775807:=hp2
 have hp4:0+pl.size≤9223372036854775807:=by omega
 have hp5:(⟨#[]⟩:ByteArray).size+pl.size≤9223372036854775807:=hp4
 have hp6:pl.size≤9223372036854775807:=by omega
 by_cases hn:x.num<0
 all_goals
  first
  | (have hdec:decide (x.num<0)=true:=decide_eq_true hn; rw [hdec])
  | (have hdec:decide (x.num<0)=false:=decide_eq_false hn; rw [hdec])
  go_wp2_with fail
  refine (HRd.out _).mono ?_
  rintro e4 w3 ⟨g,rfl,hg,hr3,hb3⟩
  have hge:w.heap.size≤g:=by have:=HBA.out.size; omega
  go_wp2_with fail
  refine (rabs_calls g g x _ hr3.slot hr3 HBX.out (by decide)).mono ?_
  rintro e5 w4 ⟨rfl,hr4,hu4⟩
  have hB4:=hu4.new (bthen HBA.out hb3) hge
  clear hr3 hu4 hb3 hg hge c0 c1
  go_wp2_with fail
  refine (HRo.out _ g hr4).mono ?_
  rintro e6 w5 ⟨rfl,hb5⟩
  have hB5:=bthen hB4 hb5
  clear hr4 hB4 hb5
  go_wp2_with fail
  refine (HPl.out _ hB5).mono ?_
  rintro e7 w6 ⟨rfl,hb6⟩
  have HB6:=Lib.hid (bthen hB5 hb6)
  have HNN:=Lib.hid hn
  clear hB5 hb6 hn
  go_wp2
  all_goals go_ret2
  all_goals refine ⟨?_,HB6.out⟩
  all_goals first
  | (exfalso; have h9:=HNN.out; omega)
  | rfl
  | (rw [show (⟨#[]⟩:ByteArray)++pl=pl from by apply ByteArray.ext; simp]; rfl)
  | (rw [if_pos (show x.num<0 by have:=HNN.out; omega)]; rfl)
  | (rw [if_neg (show ¬ x.num<0 by have:=HNN.out; omega)]; rfl)
  | (rw [if_neg (show ¬ x.num<0 by have:=HNN.out; omega),show (⟨#[]⟩:ByteArray)++pl=pl from by apply ByteArray.ext; simp]; rfl)
end Go.Proofs.ZQ
end
section
namespace Go.Proofs.ZQ
open Go.RowKit Go.Proofs.ZW.Wa Go.Proofs.ZW.Wb Go.Proofs.ZW.Wc
attribute [local go_sem] zaC zaB zaM zaL zaz zay zaF zaE
noncomputable def c5_even.f (a0_0:Bool) (a0_1:ByteArray) (a0_2:ByteArray):Option (ByteArray):=(c1_Divide.f a0_1 a0_2).bind fun bt348=>((c1_Plus.f bt348.2 bt348.2).bind fun t350=>((c1_Compare.f t350 a0_2).bind fun t351=>(if t351>0 then ((c1_Plus.f bt348.1 (⟨#[49]⟩:ByteArray)).bind fun t352=>(some t352)) else (if t351=0 then (if 0≤(wrap64 ((bt348.1.size:Int)-1)) then (if (wrap64 ((bt348.1.size:Int)-1))<(bt348.1.size:Int) then (if ((((bt bt348.1 (wrap64 ((bt348.1.size:Int)-1)))-48)%256)%2)=1 then ((c1_Plus.f bt348.1 (⟨#[49]⟩:ByteArray)).bind fun t353=>(some t353)) else (some bt348.1)) else (none)) else (none)) else (some bt348.1)))))
end Go.Proofs.ZQ
end
section
namespace Go.Proofs.ZQ
open Go.RowKit Go.Proofs.ZW.Wa Go.Proofs.ZP
theorem tenR_inv (m:Int):tenR (-m)=(tenR m)⁻¹:=by
 unfold tenR
 rcases Int.lt_trichotomy m 0 with h|h|h
 ·rw [if_neg (by omega),if_pos h,Rat.inv_inv,Int.natAbs_neg]
 ·subst h; simp; first|rfl|decide|grind
 ·rw [if_pos (by omega),if_neg (by omega),Int.natAbs_neg]
theorem tenR_ne (m:Int):tenR m≠0:=by
 unfold tenR
 split
 ·intro h
  have h2:((((10:Int)^m.natAbs:Int):Rat)⁻¹)⁻¹=0:=by rw [h,Rat.inv_zero]
  rw [Rat.inv_inv] at h2
  exact ten_ne _ h2
 ·exact ten_ne _
theorem tenR_parts (m:Int):(tenR m).num=((10^(m.toNat):Nat):Int)∧(tenR m).den=10^((-m).toNat):=by
 by_cases h:m<0
 ·obtain ⟨q,rfl⟩:∃ q:Nat,m = -(q:Int):=⟨(-m).toNat,by omega⟩
  have hp:0<10^q:=Nat.pow_pos (by decide)
  obtain ⟨h1,h2,h3⟩:=zcJ false 1 (10^q) hp
  have e1:sgn false 1=1:=rfl
  rw [e1] at h1 h2 h3
  rw [tenR_neg q (by omega)]
  rw [Nat.gcd_one_left,Nat.div_one] at h1
  rw [Nat.gcd_one_left,Nat.div_one] at h2
  refine ⟨?_,by rw [h2]; congr 1; omega⟩
  have e2:(-(q:Int)).toNat=0:=by omega
  rw [e2,Nat.pow_zero]
  have h4:decide ((Rat.divInt 1 ((10^q:Nat):Int)).num<0)=(false && decide (1≠0)):=h3
  have h5:=of_decide_eq_false (h4.trans (Bool.false_and _))
  omega
 ·obtain ⟨q,rfl⟩:∃ q:Nat,m=(q:Int):=⟨m.toNat,by omega⟩
  have e:tenR (q:Int)=(((10:Int)^q:Int):Rat):=by unfold tenR; rw [if_neg (by omega),Int.natAbs_natCast]
  rw [e,show (-(q:Int)).toNat=0 by omega,Int.toNat_natCast]
  refine ⟨?_,rfl⟩
  show (10:Int)^q=_
  rw [Int.natCast_pow]; rfl
theorem tenR_sz (m:Int) (k:Nat) (h:m.natAbs<k):Sz k (tenR m):=by
 obtain ⟨h1,h2⟩:=tenR_parts m
 refine ⟨?_,?_⟩
 ·rw [h1,Int.natAbs_natCast,zcZ]; omega
 ·rw [h2,zcZ]; omega
theorem size_ge {n:Nat} (h:0<n):10^((T n).size-1)≤n:=by
 rcases Nat.lt_or_ge 1 (T n).size with h1|h1
 ·have:=(zas (k:=(T n).size-1) (n:=n) (by omega))
  exact Nat.not_lt.1 (fun e=>by have:=this.2 e; omega)
 ·rw [show (T n).size-1=0 by omega]; omega
theorem size_lt (n:Nat):n<10^(T n).size:=(zas (zaN n)).1 (Nat.le_refl _)
theorem exp_low {x:Rat} (hp:0<x.num):0≤cmpR x (tenR (((T x.num.natAbs).size:Int)-((T x.den).size:Int)-1)):=by
 have ha:=size_ge (n:=x.num.natAbs) (by omega)
 have hb:=size_lt x.den
 have hsa:=zaN x.num.natAbs
 obtain ⟨a,hxa⟩:∃ a:Nat,x.num=(a:Int):=⟨x.num.natAbs,by omega⟩
 have hna:x.num.natAbs=a:=by omega
 rw [hna] at ha hsa ⊢
 generalize (T a).size=sa at *
 generalize (T x.den).size=sb at *
 obtain ⟨h1,h2⟩:=tenR_parts ((sa:Int)-sb-1)
 unfold cmpR
 rw [h1,h2,hxa]
 have key:10^(((sa:Int)-sb-1).toNat)*x.den≤a*10^((-((sa:Int)-sb-1)).toNat):=by
  by_cases hc:0≤(sa:Int)-sb-1
  ·have e1:(-((sa:Int)-sb-1)).toNat=0:=by omega
   have e2:sa-1=((sa:Int)-sb-1).toNat+sb:=by omega
   rw [e1,Nat.pow_zero,Nat.mul_one]
   refine Nat.le_trans (Nat.mul_le_mul_left _ (Nat.le_of_lt hb)) ?_
   rw [←Nat.pow_add,←e2]; exact ha
  ·have e1:((sa:Int)-sb-1).toNat=0:=by omega
   have e2:sb=(sa-1)+(-((sa:Int)-sb-1)).toNat:=by omega
   rw [e1,Nat.pow_zero,Nat.one_mul]
   refine Nat.le_trans (Nat.le_of_lt hb) ?_
   conv=>lhs; rw [e2]
   rw [Nat.pow_add]
   exact Nat.mul_le_mul_right _ ha
 have hsg:=fun q:Int=>Int.sign_trichotomy q
 refine Int.not_lt.1 (fun e => ?_)
 have e2:=Int.sign_neg_iff.1 e
 clear hsg
 have k2:(((10^(((sa:Int)-sb-1).toNat)*x.den:Nat)):Int)≤((a*10^((-((sa:Int)-sb-1)).toNat):Nat):Int):=by exact_mod_cast key
 rw [Int.natCast_mul,Int.natCast_mul] at k2
 omega
theorem fsize_ans (x:Rat):Ans 82 #[FrV x] (FrV x.abs):=fun W=>by
 refine c1_FSize.calls _ _ _ _ _ _ W ?_
 obtain ⟨e1,e2⟩:=zdH x
 unfold c1_FSize.f Fr
 dsimp only
 rw [e1,e2,Int.natAbs_natCast,decide_eq_false (by omega)]
end Go.Proofs.ZQ
end
section
namespace Go.Proofs.ZQ
open Go.RowKit Go.Proofs.ZW.Wa Go.Proofs.ZW.Wb Go.Proofs.ZW.Wc
attribute [local go_sem] zaC zaB zaM zaL zaz zay zaF zaE
noncomputable def c5_noughts.l0:Nat→Int→ByteArray→Int→Option (ByteArray)
 | 0,_,_,_=>none
 | k+1,x0,x3,x4=>if x4<x0 then (if x3.size+1≤9223372036854775807 then (c5_noughts.l0 k x0 (x3++(⟨#[48]⟩:ByteArray)) (wrap64 (x4+1))) else (none)) else (some x3)
noncomputable def c5_noughts.f (k:Nat) (a0:Int):Option (ByteArray):=c5_noughts.l0 k a0 (⟨#[]⟩:ByteArray) 0
end Go.Proofs.ZQ
end
