/- Texts under the proof, joined by a program (prune.py): QPlus, Q196, Q212, Q240, QFr4, QRefOps. -/
import Derived.Test.YtglaeambknhjlaaGreatDoorCRatFractions11
import Derived.Test.YtglaeambknhjlaaGreatDoorCRatFractions13
import Derived.Test.YtglaeambknhjlaaGreatDoorCRatFractions14
import Derived.Test.YtglaeambknhjlaaGreatDoorCRatFractions09
import Derived.Test.YtglaeambknhjlaaGreatDoorCRatFractions15
set_option linter.unusedVariables false
set_option linter.unusedSimpArgs false
set_option exponentiation.threshold 20001
set_option maxHeartbeats 8000000
set_option maxRecDepth 100000
section
namespace Go.Proofs.ZQ
open Go.RowKit Go.Proofs.ZW.Wa Go.Proofs.ZP Go.Proofs.ZW.Wb Go.Proofs.ZW.Wc
def FrAt (w:World) (b:Nat) (s:Bool) (x y:ByteArray):Prop:=w.heap[b]? = some (.cells #[.bool s,.string x,.string y] 66 (0,0))
theorem FrAt.c0 {w:World} {b:Nat} {s:Bool} {x y:ByteArray} (h:FrAt w b s x y):w.cell? ⟨b,0,none⟩=some (.bool s):=(zaf h 0).trans rfl
theorem FrAt.c1 {w:World} {b:Nat} {s:Bool} {x y:ByteArray} (h:FrAt w b s x y):w.cell? ⟨b,1,none⟩=some (.string x):=(zaf h 1).trans rfl
theorem FrAt.c2 {w:World} {b:Nat} {s:Bool} {x y:ByteArray} (h:FrAt w b s x y):w.cell? ⟨b,2,none⟩=some (.string y):=(zaf h 2).trans rfl
theorem FrAt.below {w w':World} {b:Nat} {s:Bool} {x y:ByteArray} (h:FrAt w b s x y) (hb:Below w.heap.size w w'):FrAt w' b s x y:=(hb.block _ (zas h)).trans h
theorem FrAt.keep {w w':World} {b n:Nat} {s:Bool} {x y:ByteArray} (h:FrAt w b s x y) (hb:Below n w w') (hn:b<n):FrAt w' b s x y:=(hb.block _ hn).trans h
theorem FrAt.new (w:World) (s:Bool) (x y:ByteArray):FrAt (w.alloc (.cells #[.bool s,.string x,.string y] 66)) w.heap.size s x y:=zay w _
theorem FrAt.alloc {w:World} {b:Nat} {s:Bool} {x y:ByteArray} (h:FrAt w b s x y) (o:Obj):FrAt (w.alloc o) b s x y:=h.below (zaa (Below.refl _ _) _)
theorem fr_three (w:World) (s t u:Bool) (a b c d e f:ByteArray):FrAt (((w.alloc (.cells #[.bool s,.string a,.string b] 66)).alloc (.cells #[.bool t,.string c,.string d] 66)).alloc (.cells #[.bool u,.string e,.string f] 66)) w.heap.size s a b ∧
  FrAt (((w.alloc (.cells #[.bool s,.string a,.string b] 66)).alloc (.cells #[.bool t,.string c,.string d] 66)).alloc (.cells #[.bool u,.string e,.string f] 66)) (w.heap.size+1) t c d ∧
  FrAt (((w.alloc (.cells #[.bool s,.string a,.string b] 66)).alloc (.cells #[.bool t,.string c,.string d] 66)).alloc (.cells #[.bool u,.string e,.string f] 66)) (w.heap.size+1+1) u e f ∧
  Below w.heap.size w (((w.alloc (.cells #[.bool s,.string a,.string b] 66)).alloc (.cells #[.bool t,.string c,.string d] 66)).alloc (.cells #[.bool u,.string e,.string f] 66)):=by
 refine ⟨((FrAt.new w s a b).alloc _).alloc _,?_,?_,zaa (zaa (zaa (Below.refl _ _) _) _) _⟩
 ·have h:=(FrAt.new (w.alloc (.cells #[.bool s,.string a,.string b] 66)) t c d).alloc (.cells #[.bool u,.string e,.string f] 66)
  rw [World.size_alloc] at h
  exact h
 ·have h:=FrAt.new ((w.alloc (.cells #[.bool s,.string a,.string b] 66)).alloc (.cells #[.bool t,.string c,.string d] 66)) u e f
  rw [World.size_alloc,World.size_alloc] at h
  exact h
noncomputable def c2_Plus.f (a0_0:Bool) (a0_1:ByteArray) (a0_2:ByteArray) (a1_0:Bool) (a1_1:ByteArray) (a1_2:ByteArray):Option (Bool×ByteArray×ByteArray):=(c1_Times.f a0_1 a1_2).bind fun t601=>((c1_Times.f a1_1 a0_2).bind fun t602=>((c1_Times.f a0_2 a1_2).bind fun t603=>(if (a0_0 == a1_0)=true then ((c1_Plus.f t601 t602).bind fun t604=>((c2_Lowest.f a0_0 t604 t603).bind fun bt605=>(some (bt605.1,bt605.2.1,bt605.2.2)))) else ((c1_Compare.f t601 t602).bind fun t608=>(if t608≥0 then ((c1_Minus.f t601 t602).bind fun t609=>((c2_Lowest.f a0_0 t609 t603).bind fun bt610=>(some (bt610.1,bt610.2.1,bt610.2.2)))) else ((c1_Minus.f t602 t601).bind fun t613=>((c2_Lowest.f a1_0 t613 t603).bind fun bt614=>(some (bt614.1,bt614.2.1,bt614.2.2)))))))))
theorem c2_Plus.calls (a0_0:Bool) (a0_1:ByteArray) (a0_2:ByteArray) (a1_0:Bool) (a1_1:ByteArray) (a1_2:ByteArray) (r1:Bool) (r2:ByteArray) (r3:ByteArray) (w:World) (h:c2_Plus.f a0_0 a0_1 a0_2 a1_0 a1_1 a1_2=some (r1,r2,r3)) :
  Calls Tryz.prog 60 #[.agg #[.bool a0_0,.string a0_1,.string a0_2],.agg #[.bool a1_0,.string a1_1,.string a1_2]] w fun e w'=>e = .returned (.agg #[.bool r1,.string r2,.string r3])∧Below w.heap.size w w':=by
 unfold c2_Plus.f at h
 obtain ⟨x,hx,h2⟩:=Option.bind_eq_some_iff.1 h
 obtain ⟨y,hy,h3⟩:=Option.bind_eq_some_iff.1 h2
 obtain ⟨d,hd,h4⟩:=Option.bind_eq_some_iff.1 h3
 have HX:=Lib.hid (fun W=>c1_Times.calls a0_1 a1_2 x W hx)
 have HY:=Lib.hid (fun W=>c1_Times.calls a1_1 a0_2 y W hy)
 have HD:=Lib.hid (fun W=>c1_Times.calls a0_2 a1_2 d W hd)
 have H:=Lib.hid h4
 clear h h2 h3 h4 hx hy hd
 go_enter Tryz.func60,Tryz.ntmps60
 obtain ⟨fa,fb,fr,hba⟩:=fr_three w a0_0 a1_0 false a0_1 a0_2 a1_1 a1_2 ⟨#[]⟩ ⟨#[]⟩
 go_wp2_with fail
 generalize (((w.alloc (.cells #[.bool a0_0,.string a0_1,.string a0_2] 66)).alloc (.cells #[.bool a1_0,.string a1_1,.string a1_2] 66)).alloc (.cells #[.bool false,.string ⟨#[]⟩,.string ⟨#[]⟩] 66))=W0 at *
 generalize hBx:w.heap.size+1=X0 at *
 generalize hBe:X0+1=B0 at *
 have HBE:=Lib.hid (show w.heap.size≤B0 by omega)
 have HLT:=Lib.hid (show w.heap.size<B0∧X0<B0 by omega)
 have HK:=Lib.hid (show ∀ W':World,Below W0.heap.size W0 W'→W'.cell? ⟨w.heap.size,1,none⟩=some (.string a0_1)∧W'.cell? ⟨w.heap.size,2,none⟩=some (.string a0_2)∧W'.cell? ⟨X0,1,none⟩=some (.string a1_1)∧W'.cell? ⟨X0,2,none⟩=some (.string a1_2) from fun W' h=>⟨(fa.below h).c1,(fa.below h).c2,(fb.below h).c1,(fb.below h).c2⟩)
 clear hBe hBx
 have HLE:=Lib.hid (show B0≤W0.heap.size from Nat.le_of_lt (zas fr))
 have HFA:=Lib.hid fa
 have HFB:=Lib.hid fb
 have HFR:=Lib.hid fr
 have HBA:=Lib.hid hba
 clear fa fb fr hba
 go_region_held3 (fun w'=>w'.cell? ⟨w.heap.size,1,none⟩=some (.string a0_1)∧w'.cell? ⟨w.heap.size,2,none⟩=some (.string a0_2)∧w'.cell? ⟨X0,1,none⟩=some (.string a1_1)∧w'.cell? ⟨X0,2,none⟩=some (.string a1_2))
  (exact HK.out _ (by repeat (with_reducible first|exact Below.refl _ _|apply zap|apply zab|refine bthen ?_ hb3|refine bthen ?_ hb2|refine bthen ?_ hb1)))
  ((first
   | (go_simp; go_at_call 131; (with_reducible change Calls _ _ #[.string a0_1,.string a1_2] _ _); refine (HX.out _).mono ?_; rintro e w1 ⟨rfl,hb1⟩)
   | (go_simp; go_at_call 131; (with_reducible change Calls _ _ #[.string a1_1,.string a0_2] _ _); refine (HY.out _).mono ?_; rintro e w2 ⟨rfl,hb2⟩)
   | (go_simp; go_at_call 131; (with_reducible change Calls _ _ #[.string a0_2,.string a1_2] _ _); refine (HD.out _).mono ?_; rintro e w3 ⟨rfl,hb3⟩)))
 rename_i hHeld
 clear hHeld
 have HB3:=Lib.hid (show Below W0.heap.size W0 w3 from by repeat (with_reducible first|exact Below.refl _ _|apply zap|apply zab|refine bthen ?_ hb3|refine bthen ?_ hb2|refine bthen ?_ hb1))
 clear hb1 hb2 hb3 HX HY HD HK
 have q0:=(HFA.out.below HB3.out).c0
 have q1:=(HFB.out.below HB3.out).c0
 have HQ:=Lib.hid (show ∀ W':World,Below W0.heap.size W0 W'→W'.cell? ⟨w.heap.size,0,none⟩=some (.bool a0_0)∧W'.cell? ⟨X0,0,none⟩=some (.bool a1_0) from fun W' h=>⟨(HFA.out.below h).c0,(HFB.out.below h).c0⟩)
 have HQS:=Lib.hid (show ∀ (W':World) (u v t:Value),Below W0.heap.size W0 W'→(((W'.setCell ⟨B0,0,none⟩ u).setCell ⟨B0,1,none⟩ v).setCell ⟨B0,2,none⟩ t).cell? ⟨w.heap.size,0,none⟩=some (.bool a0_0)∧(((W'.setCell ⟨B0,0,none⟩ u).setCell ⟨B0,1,none⟩ v).setCell ⟨B0,2,none⟩ t).cell? ⟨X0,0,none⟩=some (.bool a1_0) from fun W' u v t h =>
  have k:=Below.setCell (p:=⟨B0,2,none⟩) (Below.setCell (p:=⟨B0,1,none⟩) (Below.setCell (p:=⟨B0,0,none⟩) (h.mono HLE.out) (Nat.le_refl _) u) (Nat.le_refl _) v) (Nat.le_refl _) t
  ⟨(HFA.out.keep k HLT.out.1).c0,(HFB.out.keep k HLT.out.2).c0⟩)
 by_cases hs:(a0_0 == a1_0)=true
 ·obtain ⟨t,ht,h⟩:=Option.bind_eq_some_iff.1 ((if_pos hs).symm.trans H.out)
  obtain ⟨⟨l0,l1,l2⟩,hl,h⟩:=Option.bind_eq_some_iff.1 h
  cases h
  have HT:=Lib.hid (fun W=>c1_Plus.calls x y t W ht)
  have HL:=Lib.hid (fun W=>c2_Lowest.calls a0_0 t d l0 l1 l2 W hl)
  clear ht hl H
  go_wp2_with fail
  go_region_held3 (fun w'=>w'.cell? ⟨w.heap.size,0,none⟩=some (.bool a0_0)∧w'.cell? ⟨X0,0,none⟩=some (.bool a1_0))
   (first|(with_reducible refine HQS.out _ _ _ _ ?_; repeat (with_reducible first|exact Below.refl _ _|exact HB3.out|apply zap|apply zab|refine bthen ?_ hb5|refine bthen ?_ hb4|refine bthen ?_ hb6))|(with_reducible refine HQ.out _ ?_; repeat (with_reducible first|exact Below.refl _ _|exact HB3.out|apply zap|apply zab|refine bthen ?_ hb5|refine bthen ?_ hb4|refine bthen ?_ hb6)))
   ((first
    | (go_simp; go_at_call 129; refine (HT.out _).mono ?_; rintro e w4 ⟨rfl,hb4⟩)
    | (go_simp; go_at_call 111; refine (HL.out _).mono ?_; rintro e w5 ⟨rfl,hb5⟩; have fr5:=HFR.out.below (show Below W0.heap.size W0 w5 from (by repeat (with_reducible first|exact Below.refl _ _|exact HB3.out|apply zap|apply zab|refine bthen ?_ hb5|refine bthen ?_ hb4|refine bthen ?_ hb6))); have cB0:=fr5.c0; have cB1:=fr5.c1; have cB2:=fr5.c2; have fB0:=zae fr5 0; have fB1:=zae fr5 1; have fB2:=zae fr5 2)))
  have hs1:=zat fr5 0 (.bool l0)
  have hs2:=zat hs1 1 (.string l1)
  have hs3:=zat hs2 2 (.string l2)
  have HS3:=Lib.hid (hs3.trans (show _=some (Obj.cells #[.bool l0,.string l1,.string l2] 66 (0,0)) from rfl))
  have HBF:=Lib.hid (zag (zag (zag (g:=B0) (j:=0) (v:=.bool l0) (bthen HBA.out (show Below W0.heap.size W0 w5 from (by repeat (with_reducible first|exact Below.refl _ _|exact HB3.out|apply zap|apply zab|refine bthen ?_ hb5|refine bthen ?_ hb4|refine bthen ?_ hb6)))) HBE.out) (j:=1) (v:=.string l1) (g:=B0) HBE.out) (j:=2) (v:=.string l2) (g:=B0) HBE.out)
  clear hs1 hs2 hs3 fr5 cB0 cB1 cB2 fB0 fB1 fB2 hb4 hb5
  go_wp2
  refine bodyPost_ret (results_cell_row rfl _ _ B0 66 #[.bool l0,.string l1,.string l2] (0,0) _ rfl HS3.out Tryz.underlying66 rfl (by kernel_rfl)) rfl ?_
  exact ⟨rfl,HBF.out⟩
 ·obtain ⟨c,hc,h⟩:=Option.bind_eq_some_iff.1 ((if_neg hs).symm.trans H.out)
  have HCc:=Lib.hid (fun W=>c1_Compare.calls x y c W hc)
  have hs':(a0_0 == a1_0)=false:=by simpa using hs
  clear hc hs H
  go_wp2_with fail
  refine (HCc.out _).mono ?_
  rintro e w6 ⟨rfl,hb6⟩
  by_cases hg:c≥0
  ·obtain ⟨t,ht,h⟩:=Option.bind_eq_some_iff.1 ((if_pos hg).symm.trans h)
   obtain ⟨⟨l0,l1,l2⟩,hl,h⟩:=Option.bind_eq_some_iff.1 h
   cases h
   have HT:=Lib.hid (fun W=>c1_Minus.calls x y t W ht)
   have HL:=Lib.hid (fun W=>c2_Lowest.calls a0_0 t d l0 l1 l2 W hl)
   clear ht hl HCc
   go_wp2_with fail
   go_region_held3 (fun w'=>w'.cell? ⟨w.heap.size,0,none⟩=some (.bool a0_0)∧w'.cell? ⟨X0,0,none⟩=some (.bool a1_0))
    (first|(with_reducible refine HQS.out _ _ _ _ ?_; repeat (with_reducible first|exact Below.refl _ _|exact HB3.out|apply zap|apply zab|refine bthen ?_ hb5|refine bthen ?_ hb4|refine bthen ?_ hb6))|(with_reducible refine HQ.out _ ?_; repeat (with_reducible first|exact Below.refl _ _|exact HB3.out|apply zap|apply zab|refine bthen ?_ hb5|refine bthen ?_ hb4|refine bthen ?_ hb6)))
    ((first
     | (go_simp; go_at_call 130; refine (HT.out _).mono ?_; rintro e w4 ⟨rfl,hb4⟩)
     | (go_simp; go_at_call 111; refine (HL.out _).mono ?_; rintro e w5 ⟨rfl,hb5⟩; have fr5:=HFR.out.below (show Below W0.heap.size W0 w5 from (by repeat (with_reducible first|exact Below.refl _ _|exact HB3.out|apply zap|apply zab|refine bthen ?_ hb5|refine bthen ?_ hb4|refine bthen ?_ hb6))); have cB0:=fr5.c0; have cB1:=fr5.c1; have cB2:=fr5.c2; have fB0:=zae fr5 0; have fB1:=zae fr5 1; have fB2:=zae fr5 2)))
   have hs1:=zat fr5 0 (.bool l0)
   have hs2:=zat hs1 1 (.string l1)
   have hs3:=zat hs2 2 (.string l2)
   have HS3:=Lib.hid (hs3.trans (show _=some (Obj.cells #[.bool l0,.string l1,.string l2] 66 (0,0)) from rfl))
   have HBF:=Lib.hid (zag (zag (zag (g:=B0) (j:=0) (v:=.bool l0) (bthen HBA.out (show Below W0.heap.size W0 w5 from (by repeat (with_reducible first|exact Below.refl _ _|exact HB3.out|apply zap|apply zab|refine bthen ?_ hb5|refine bthen ?_ hb4|refine bthen ?_ hb6)))) HBE.out) (j:=1) (v:=.string l1) (g:=B0) HBE.out) (j:=2) (v:=.string l2) (g:=B0) HBE.out)
   clear hs1 hs2 hs3 fr5 cB0 cB1 cB2 fB0 fB1 fB2 hb4 hb5
   go_wp2
   refine bodyPost_ret (results_cell_row rfl _ _ B0 66 #[.bool l0,.string l1,.string l2] (0,0) _ rfl HS3.out Tryz.underlying66 rfl (by kernel_rfl)) rfl ?_
   exact ⟨rfl,HBF.out⟩
  ·obtain ⟨t,ht,h⟩:=Option.bind_eq_some_iff.1 ((if_neg hg).symm.trans h)
   obtain ⟨⟨l0,l1,l2⟩,hl,h⟩:=Option.bind_eq_some_iff.1 h
   cases h
   have HT:=Lib.hid (fun W=>c1_Minus.calls y x t W ht)
   have HL:=Lib.hid (fun W=>c2_Lowest.calls a1_0 t d l0 l1 l2 W hl)
   clear ht hl HCc
   go_wp2_with fail
   go_region_held3 (fun w'=>w'.cell? ⟨w.heap.size,0,none⟩=some (.bool a0_0)∧w'.cell? ⟨X0,0,none⟩=some (.bool a1_0))
    (first|(with_reducible refine HQS.out _ _ _ _ ?_; repeat (with_reducible first|exact Below.refl _ _|exact HB3.out|apply zap|apply zab|refine bthen ?_ hb5|refine bthen ?_ hb4|refine bthen ?_ hb6))|(with_reducible refine HQ.out _ ?_; repeat (with_reducible first|exact Below.refl _ _|exact HB3.out|apply zap|apply zab|refine bthen ?_ hb5|refine bthen ?_ hb4|refine bthen ?_ hb6)))
    ((first
     | (go_simp; go_at_call 130; refine (HT.out _).mono ?_; rintro e w4 ⟨rfl,hb4⟩)
     | (go_simp; go_at_call 111; refine (HL.out _).mono ?_; rintro e w5 ⟨rfl,hb5⟩; have fr5:=HFR.out.below (show Below W0.heap.size W0 w5 from (by repeat (with_reducible first|exact Below.refl _ _|exact HB3.out|apply zap|apply zab|refine bthen ?_ hb5|refine bthen ?_ hb4|refine bthen ?_ hb6))); have cB0:=fr5.c0; have cB1:=fr5.c1; have cB2:=fr5.c2; have fB0:=zae fr5 0; have fB1:=zae fr5 1; have fB2:=zae fr5 2)))
   have hs1:=zat fr5 0 (.bool l0)
   have hs2:=zat hs1 1 (.string l1)
   have hs3:=zat hs2 2 (.string l2)
   have HS3:=Lib.hid (hs3.trans (show _=some (Obj.cells #[.bool l0,.string l1,.string l2] 66 (0,0)) from rfl))
   have HBF:=Lib.hid (zag (zag (zag (g:=B0) (j:=0) (v:=.bool l0) (bthen HBA.out (show Below W0.heap.size W0 w5 from (by repeat (with_reducible first|exact Below.refl _ _|exact HB3.out|apply zap|apply zab|refine bthen ?_ hb5|refine bthen ?_ hb4|refine bthen ?_ hb6)))) HBE.out) (j:=1) (v:=.string l1) (g:=B0) HBE.out) (j:=2) (v:=.string l2) (g:=B0) HBE.out)
   clear hs1 hs2 hs3 fr5 cB0 cB1 cB2 fB0 fB1 fB2 hb4 hb5
   go_wp2
   refine bodyPost_ret (results_cell_row rfl _ _ B0 66 #[.bool l0,.string l1,.string l2] (0,0) _ rfl HS3.out Tryz.underlying66 rfl (by kernel_rfl)) rfl ?_
   exact ⟨rfl,HBF.out⟩
end Go.Proofs.ZQ
end
section
namespace Go.Proofs.ZQ
open Go.RowKit Go.Proofs.ZW.Wa Go.Proofs.ZW.Wb Go.Proofs.ZW.Wc
attribute [local go_sem] zaI zaG zaP zaO zaA zaz zaH zaF
noncomputable def c2_Times.f (a0_0:Bool) (a0_1:ByteArray) (a0_2:ByteArray) (a1_0:Bool) (a1_1:ByteArray) (a1_2:ByteArray):Option (Bool×ByteArray×ByteArray):=(c1_Times.f a0_1 a1_1).bind fun t618=>((c1_Times.f a0_2 a1_2).bind fun t619=>((c2_Lowest.f (a0_0 != a1_0) t618 t619).bind fun bt620=>(some (bt620.1,bt620.2.1,bt620.2.2))))
noncomputable def c2_Times.B1:List Nat:=[0,1,0,4,15,0,32,0,128,480,0,1024,0,4096,16352,32767,65535]
noncomputable def c2_Minus.f (a0_0:Bool) (a0_1:ByteArray) (a0_2:ByteArray):Option (Bool×ByteArray×ByteArray):=if a0_0=true then (some (false,a0_1,a0_2)) else (some ((a0_1.toList != ([48]:List UInt8)),a0_1,a0_2))
noncomputable def c2_Over.f (a0_0:Bool) (a0_1:ByteArray) (a0_2:ByteArray):Option (Bool×ByteArray×ByteArray):=some (a0_0,a0_2,a0_1)
end Go.Proofs.ZQ
end
section
namespace Go.Proofs.ZQ
open Go.RowKit Go.Proofs.ZW.Wa Go.Proofs.ZP
def Sz (k:Nat) (x:Rat):Prop:=(T x.num.natAbs).size≤k∧(T x.den).size≤k
theorem rr_sz {a b:ByteArray} {x:Rat} (h:RR a b x):Sz 600 x:=⟨(zaw (k:=600) (by decide)).2 h.ln,(zaw (k:=600) (by decide)).2 h.ld⟩
theorem sz_div {s:Bool} {a b k:Nat} (hb:0<b) (ha:(T a).size≤k) (hbs:(T b).size≤k):Sz k (Rat.divInt (sgn s a) b):=by
 obtain ⟨f1,f2,f3⟩:=zds s a b hb
 refine ⟨?_,?_⟩
 ·rw [f1]; exact Nat.le_trans (za2 (Nat.div_le_self _ _)) ha
 ·rw [f2]; exact Nat.le_trans (za2 (Nat.div_le_self _ _)) hbs
theorem Plus_Fr {x y:Rat} {k:Nat} (hx:Sz k x) (hy:Sz k y) (hk:k≤1000000):c2_Plus.f (Fr x).1 (Fr x).2.1 (Fr x).2.2 (Fr y).1 (Fr y).2.1 (Fr y).2.2=some (Fr (x+y))∧Sz (2*k+1) (x+y):=by
 have hxd:=x.den_pos
 have hyd:=y.den_pos
 obtain ⟨hx1,hx2⟩:=hx
 obtain ⟨hy1,hy2⟩:=hy
 have hsum:x+y=Rat.divInt (sgn (decide (x.num<0)) (x.num.natAbs*y.den)+sgn (decide (y.num<0)) (y.num.natAbs*x.den)) ((x.den*y.den:Nat):Int):=by
  rw [add_divInt,←zc5,←zc5,sgn_of,sgn_of,Int.natCast_mul]
 rw [hsum]
 unfold c2_Plus.f
 show (c1_Times.f (T x.num.natAbs) (T y.den)).bind _=_∧_
 have m1:=zb5 x.num.natAbs y.den
 have m2:=zb5 y.num.natAbs x.den
 have m3:=zb5 x.den y.den
 have hd:0<x.den*y.den:=Nat.mul_pos hxd hyd
 rw [Times_T (by omega) (by omega),Option.bind_some]
 show (c1_Times.f (T y.num.natAbs) (T x.den)).bind _=_∧_
 rw [Times_T (by omega) (by omega),Option.bind_some]
 show (c1_Times.f (T x.den) (T y.den)).bind _=_∧_
 rw [Times_T (by omega) (by omega),Option.bind_some]
 show (if (decide (x.num<0) == decide (y.num<0))=true then _ else _)=_∧_
 have e1:(Fr x).1=decide (x.num<0):=rfl
 have e2:(Fr y).1=decide (y.num<0):=rfl
 rw [e1,e2]
 generalize decide (x.num<0)=s
 generalize decide (y.num<0)=t
 generalize x.num.natAbs*y.den=A at *
 generalize y.num.natAbs*x.den=B at *
 generalize x.den*y.den=C at *
 have hadd:=T_size_add A B (2*k) (by omega) (by omega)
 by_cases hst:s=t
 ·subst hst
  rw [if_pos (beq_self_eq_true s),Plus_T (by omega) (by omega),Option.bind_some,lowest_T s (A+B) C hd (by omega) (by omega),Option.bind_some,sgn_add_same]
  exact ⟨rfl,sz_div hd (by omega) (by omega)⟩
 ·rw [if_neg (fun e=>hst (beq_iff_eq.1 e)),Compare_T (by omega) (by omega),Option.bind_some]
  by_cases hle:B≤A
  ·have hc:cmpN A B≥0:=by unfold cmpN; split; omega; split<;>omega
   have h3:(T (A-B)).size≤(T A).size:=za2 (Nat.sub_le _ _)
   rw [if_pos hc,Minus_T (by omega) (by omega) hle,Option.bind_some,lowest_T s (A-B) C hd (by omega) (by omega),Option.bind_some,sgn_add_ge s t A B hst hle]
   exact ⟨rfl,sz_div hd (by omega) (by omega)⟩
  ·have hc:¬ cmpN A B≥0:=by unfold cmpN; rw [if_pos (by omega)]; decide
   have h3:(T (B-A)).size≤(T B).size:=za2 (Nat.sub_le _ _)
   rw [if_neg hc,Minus_T (by omega) (by omega) (by omega),Option.bind_some,lowest_T t (B-A) C hd (by omega) (by omega),Option.bind_some,sgn_add_lt s t A B hst (by omega)]
   exact ⟨rfl,sz_div hd (by omega) (by omega)⟩
theorem core_no {a b:ByteArray} (h:¬ ∃ x,RR a b x):coreB (spl a).1 (spl a).2 b=false:=by
 cases hc:coreB (spl a).1 (spl a).2 b
 ·rfl
 ·exact absurd ((core_iff a b).1 hc) h
theorem right_yes {a b:ByteArray} {x:Rat} (h:RR a b x):Ev (fun k=>c2_Right.f k a b) true:=by
 have:=right_ev a b
 rwa [(core_iff a b).2 ⟨x,h⟩] at this
theorem right_no {a b:ByteArray} (h:¬ ∃ x,RR a b x):Ev (fun k=>c2_Right.f k a b) false:=by
 have:=right_ev a b
 rwa [core_no h] at this
theorem tell_ok (x:Rat):tell 0 x=toldR x:=if_pos rfl
end Go.Proofs.ZQ
end
section
namespace Go.Proofs.ZQ
open Go.RowKit Go.Proofs.ZW.Wa Go.Proofs.ZP Go.Proofs.ZW.Wb Go.Proofs.ZW.Wc
def RbAt (w:World) (b:Nat) (x y:ByteArray):Prop:=w.heap[b]? = some (.cells #[.string x,.string y] 23 (0,0))
theorem RbAt.c0 {w:World} {b:Nat} {x y:ByteArray} (h:RbAt w b x y):w.cell? ⟨b,0,none⟩=some (.string x):=(zaf h 0).trans rfl
theorem RbAt.c1 {w:World} {b:Nat} {x y:ByteArray} (h:RbAt w b x y):w.cell? ⟨b,1,none⟩=some (.string y):=(zaf h 1).trans rfl
theorem RbAt.below {w w':World} {b:Nat} {x y:ByteArray} (h:RbAt w b x y) (hb:Below w.heap.size w w'):RbAt w' b x y:=(hb.block _ (zas h)).trans h
theorem RbAt.keep {w w':World} {b n:Nat} {x y:ByteArray} (h:RbAt w b x y) (hb:Below n w w') (hn:b<n):RbAt w' b x y:=(hb.block _ hn).trans h
theorem RbAt.new (w:World) (x y:ByteArray):RbAt (w.alloc (.cells #[.string x,.string y] 23)) w.heap.size x y:=zay w _
theorem RbAt.alloc {w:World} {b:Nat} {x y:ByteArray} (h:RbAt w b x y) (o:Obj):RbAt (w.alloc o) b x y:=h.below (zaa (Below.refl _ _) _)
theorem rb_put {w w2:World} {D:Nat} {x y:ByteArray} (f:RbAt w2 D x y) (hb:Below w.heap.size w w2) (hD:w.heap.size≤D) (u v:ByteArray):RbAt ((w2.setCell ⟨D,0,none⟩ (.string u)).setCell ⟨D,1,none⟩ (.string v)) D u v∧Below w.heap.size w ((w2.setCell ⟨D,0,none⟩ (.string u)).setCell ⟨D,1,none⟩ (.string v)):=
  ⟨(zat (zat f 0 (.string u)) 1 (.string v)).trans rfl,zag (zag hb hD) hD⟩
theorem rb_three (w:World) (a b c d e f:ByteArray):RbAt (((w.alloc (.cells #[.string a,.string b] 23)).alloc (.cells #[.string c,.string d] 23)).alloc (.cells #[.string e,.string f] 23)) w.heap.size a b ∧
    RbAt (((w.alloc (.cells #[.string a,.string b] 23)).alloc (.cells #[.string c,.string d] 23)).alloc (.cells #[.string e,.string f] 23)) (w.heap.size+1) c d ∧
    RbAt (((w.alloc (.cells #[.string a,.string b] 23)).alloc (.cells #[.string c,.string d] 23)).alloc (.cells #[.string e,.string f] 23)) (w.heap.size+1+1) e f ∧
    Below w.heap.size w (((w.alloc (.cells #[.string a,.string b] 23)).alloc (.cells #[.string c,.string d] 23)).alloc (.cells #[.string e,.string f] 23)):=by
  refine ⟨((RbAt.new w a b).alloc _).alloc _,?_,?_,zaa (zaa (zaa (Below.refl _ _) _) _) _⟩
  · have h:=(RbAt.new (w.alloc (.cells #[.string a,.string b] 23)) c d).alloc (.cells #[.string e,.string f] 23)
    rw [World.size_alloc] at h
    exact h
  · have h:=RbAt.new ((w.alloc (.cells #[.string a,.string b] 23)).alloc (.cells #[.string c,.string d] 23)) e f
    rw [World.size_alloc,World.size_alloc] at h
    exact h
def Ans (f:FuncId) (args:Array Value) (v:Value):Prop:=∀ W:World,Calls Tryz.prog f args W fun e w'=>e = .returned v∧Below W.heap.size W w'
theorem zbz {a b:ByteArray} {x:Rat} (h:RR a b x):Ans 36 #[.agg #[.string a,.string b]] (.bool true):=fun W=>by
  obtain ⟨k,hk⟩:=(right_yes h).rounds
  exact c2_Right.calls k a b true W hk
theorem zbQ {a b:ByteArray} (h:¬ ∃ x,RR a b x):Ans 36 #[.agg #[.string a,.string b]] (.bool false):=fun W=>by
  obtain ⟨k,hk⟩:=(right_no h).rounds
  exact c2_Right.calls k a b false W hk
def FrV (x:Rat):Value:=.agg #[.bool (Fr x).1,.string (Fr x).2.1,.string (Fr x).2.2]
theorem read_ans {a b:ByteArray} {x:Rat} (h:RR a b x):Ans 61 #[.agg #[.string a,.string b]] (FrV x):=fun W=>by
  obtain ⟨k,hk⟩:=(read_ev a b x h).rounds
  exact c2_Read.calls k a b _ _ _ W hk
theorem told_ans (x:Rat):Ans 110 #[FrV x] (.tuple #[.agg #[.string (toldR x).1,.string (toldR x).2.1],.int .i64 (toldR x).2.2]):=fun W=>by
  obtain ⟨k,hk⟩:=(told_ev x).rounds
  exact c2_Told.calls k _ _ _ _ _ _ W hk
theorem plus_ans {x y:Rat} {k:Nat} (hx:Sz k x) (hy:Sz k y) (hk:k≤1000000):Ans 60 #[FrV x,FrV y] (FrV (x+y)):=fun W=>c2_Plus.calls _ _ _ _ _ _ _ _ _ W (Plus_Fr hx hy hk).1
theorem add_walk (a0 a1 b0 b1 : ByteArray) (x0 : Bool) (x1 x2 : ByteArray) (y0 : Bool) (y1 y2 : ByteArray) (z0 : Bool) (z1 z2 : ByteArray) (t1 t2 : ByteArray) (t3 : Int) (HA : Ans 36 #[.agg #[.string a0, .string a1]] (.bool true)) (HB : Ans 36 #[.agg #[.string b0, .string b1]] (.bool true)) (HX : Ans 61 #[.agg #[.string a0, .string a1]] (.agg #[.bool x0, .string x1, .string x2])) (HY : Ans 61 #[.agg #[.string b0, .string b1]] (.agg #[.bool y0, .string y1, .string y2])) (HO0 : Ans 60 #[.agg #[.bool x0, .string x1, .string x2], .agg #[.bool y0, .string y1, .string y2]] (.agg #[.bool z0, .string z1, .string z2])) (HT : Ans 110 #[.agg #[.bool z0, .string z1, .string z2]] (.tuple #[.agg #[.string t1, .string t2], .int .i64 t3])) : Ans 50 #[.agg #[.string a0, .string a1], .agg #[.string b0, .string b1]] (.tuple #[.agg #[.string t1, .string t2], .int .i64 t3]) := by
  intro w
  have HA:=Lib.hid HA
  have HB:=Lib.hid HB
  have HX:=Lib.hid HX
  have HY:=Lib.hid HY
  have HO0:=Lib.hid HO0
  have HT:=Lib.hid HT
  go_enter Tryz.func50,Tryz.ntmps50
  obtain ⟨fa,fb,fr,hba⟩:=rb_three w a0 a1 b0 b1 ⟨#[]⟩ ⟨#[]⟩
  go_wp2_with fail
  generalize (((w.alloc (.cells #[.string a0,.string a1] 23)).alloc (.cells #[.string b0,.string b1] 23)).alloc (.cells #[.string ⟨#[]⟩,.string ⟨#[]⟩] 23))=W0 at *
  generalize hBx:w.heap.size+1=X0 at *
  generalize hBe:X0+1=B0 at *
  have HBE:=Lib.hid (show w.heap.size≤B0∧w.heap.size<B0∧X0<B0 by omega)
  have HLE:=Lib.hid (show B0≤W0.heap.size from Nat.le_of_lt (zas fr))
  have HQ:=Lib.hid (show ∀ W':World,Below W0.heap.size W0 W'→(fun w':World=>w'.cell? ⟨w.heap.size,0,none⟩=some (.string a0)∧w'.cell? ⟨w.heap.size,1,none⟩=some (.string a1)∧w'.cell? ⟨X0,0,none⟩=some (.string b0)∧w'.cell? ⟨X0,1,none⟩=some (.string b1)) W' from fun W' h=>⟨(fa.below h).c0,(fa.below h).c1,(fb.below h).c0,(fb.below h).c1⟩)
  have HQS:=Lib.hid (show ∀ (W':World) (u v:Value),Below W0.heap.size W0 W'→(fun w':World=>w'.cell? ⟨w.heap.size,0,none⟩=some (.string a0)∧w'.cell? ⟨w.heap.size,1,none⟩=some (.string a1)∧w'.cell? ⟨X0,0,none⟩=some (.string b0)∧w'.cell? ⟨X0,1,none⟩=some (.string b1)) ((W'.setCell ⟨B0,0,none⟩ u).setCell ⟨B0,1,none⟩ v) from fun W' u v h =>
    have k:=Below.setCell (p:=⟨B0,1,none⟩) (Below.setCell (p:=⟨B0,0,none⟩) (h.mono HLE.out) (Nat.le_refl _) u) (Nat.le_refl _) v
    ⟨(fa.keep k HBE.out.2.1).c0,(fa.keep k HBE.out.2.1).c1,(fb.keep k HBE.out.2.2).c0,(fb.keep k HBE.out.2.2).c1⟩)
  dsimp only at HQ HQS
  have HFR:=Lib.hid fr
  have HFA:=Lib.hid fa
  have HFB:=Lib.hid fb
  have HBA:=Lib.hid hba
  clear fa fr hba hBe fb hBx
  refine (HA.out _).mono ?_
  rintro e w1 ⟨rfl,hb1⟩
  have c0:=(HFB.out.below hb1).c0
  have c1:=(HFB.out.below hb1).c1
  go_wp2_with fail
  refine (HB.out _).mono ?_
  rintro e w2 ⟨rfl,hb2⟩
  have HB1:=Lib.hid (bthen hb1 hb2)
  clear c0 c1 hb1 hb2
  go_wp2_with fail
  go_region_held3 (fun w'=>w'.cell? ⟨w.heap.size,0,none⟩=some (.string a0)∧w'.cell? ⟨w.heap.size,1,none⟩=some (.string a1)∧w'.cell? ⟨X0,0,none⟩=some (.string b0)∧w'.cell? ⟨X0,1,none⟩=some (.string b1))
        (first|((with_reducible refine HQS.out _ _ _ ?_); repeat (with_reducible first|exact Below.refl _ _|exact HB1.out|apply zap|apply zab|refine bthen ?_ hbT|refine bthen ?_ hbo0|refine bthen ?_ hbY|refine bthen ?_ hbX))|((with_reducible refine HQ.out _ ?_); repeat (with_reducible first|exact Below.refl _ _|exact HB1.out|apply zap|apply zab|refine bthen ?_ hbT|refine bthen ?_ hbo0|refine bthen ?_ hbY|refine bthen ?_ hbX)))
        ((first
      | (go_simp; go_at_call 61; (with_reducible change Calls _ _ #[.agg #[.string a0,.string a1]] _ _); refine (HX.out _).mono ?_; rintro e wX ⟨rfl,hbX⟩)
      | (go_simp; go_at_call 61; (with_reducible change Calls _ _ #[.agg #[.string b0,.string b1]] _ _); refine (HY.out _).mono ?_; rintro e wY ⟨rfl,hbY⟩)
      | (go_simp; go_at_call 60; (with_reducible change Calls _ _ #[.agg #[.bool x0,.string x1,.string x2],.agg #[.bool y0,.string y1,.string y2]] _ _); refine (HO0.out _).mono ?_; rintro e wo0 ⟨rfl,hbo0⟩)
      | (go_simp; go_at_call 110; refine (HT.out _).mono ?_; rintro e wT ⟨rfl,hbT⟩; have fr5:=HFR.out.below (show Below W0.heap.size W0 wT from by repeat (with_reducible first|exact Below.refl _ _|exact HB1.out|apply zap|apply zab|refine bthen ?_ hbT|refine bthen ?_ hbo0|refine bthen ?_ hbY|refine bthen ?_ hbX)); have cB0:=fr5.c0; have cB1:=fr5.c1; have fB0:=zae fr5 0; have fB1:=zae fr5 1)))
  all_goals
        rename_i hHeld
        clear hHeld
        obtain ⟨hF,hBF⟩:=rb_put fr5 (bthen HBA.out (show Below W0.heap.size W0 wT from by repeat (with_reducible first|exact Below.refl _ _|exact HB1.out|apply zap|apply zab|refine bthen ?_ hbT|refine bthen ?_ hbo0|refine bthen ?_ hbY|refine bthen ?_ hbX))) HBE.out.1 t1 t2
        have HF:=Lib.hid hF
        have HBF:=Lib.hid hBF
        clear hF hBF fr5 cB0 cB1 fB0 fB1
        go_wp2
        refine bodyPost_ret (zaR rfl _ _ B0 23 #[.string t1,.string t2] (0,0) _ rfl HF.out Tryz.underlying23 rfl (by kernel_rfl)) rfl ?_
        exact ⟨rfl,HBF.out⟩
theorem add_no (a0 a1 b0 b1:ByteArray) (ra rb:Bool) (hr:(ra && rb)=false) (HA:Ans 36 #[.agg #[.string a0,.string a1]] (.bool ra)) (HB:Ans 36 #[.agg #[.string b0,.string b1]] (.bool rb)):Ans 50 #[.agg #[.string a0,.string a1],.agg #[.string b0,.string b1]] (.tuple #[.agg #[.string ⟨#[]⟩,.string ⟨#[]⟩],.int .i64 3]):=by
  intro w
  have HA:=Lib.hid HA
  have HB:=Lib.hid HB
  go_enter Tryz.func50,Tryz.ntmps50
  obtain ⟨fa,fb,fr,hba⟩:=rb_three w a0 a1 b0 b1 ⟨#[]⟩ ⟨#[]⟩
  go_wp2_with fail
  generalize (((w.alloc (.cells #[.string a0,.string a1] 23)).alloc (.cells #[.string b0,.string b1] 23)).alloc (.cells #[.string ⟨#[]⟩,.string ⟨#[]⟩] 23))=W0 at *
  generalize hBx:w.heap.size+1=X0 at *
  generalize hBe:X0+1=B0 at *
  have HBE:=Lib.hid (show w.heap.size≤B0∧w.heap.size<B0∧X0<B0 by omega)
  have HFR:=Lib.hid fr
  have HFB:=Lib.hid fb
  have HBA:=Lib.hid hba
  clear fa fr hba hBe fb hBx
  refine (HA.out _).mono ?_
  rintro e w1 ⟨rfl,hb1⟩
  cases ra
  · have HB2:=Lib.hid hb1
    clear hb1
    have fr5:=HFR.out.below HB2.out
    have cB0:=fr5.c0
    have cB1:=fr5.c1
    have fB0:=zae fr5 0
    have fB1:=zae fr5 1
    obtain ⟨hF,hBF⟩:=rb_put fr5 (bthen HBA.out HB2.out) HBE.out.1 ⟨#[]⟩ ⟨#[]⟩
    have HF:=Lib.hid hF
    have HBF:=Lib.hid hBF
    clear hF hBF fr5
    go_wp2
    refine bodyPost_ret (zaR rfl _ _ B0 23 #[.string ⟨#[]⟩,.string ⟨#[]⟩] (0,0) _ rfl HF.out Tryz.underlying23 rfl (by kernel_rfl)) rfl ?_
    exact ⟨rfl,HBF.out⟩
  · obtain rfl:rb=false:=by simpa using hr
    have c0:=(HFB.out.below hb1).c0
    have c1:=(HFB.out.below hb1).c1
    go_wp2_with fail
    refine (HB.out _).mono ?_
    rintro e w2 ⟨rfl,hb2⟩
    have HB2:=Lib.hid (bthen hb1 hb2)
    clear c0 c1 hb1 hb2
    have fr5:=HFR.out.below HB2.out
    have cB0:=fr5.c0
    have cB1:=fr5.c1
    have fB0:=zae fr5 0
    have fB1:=zae fr5 1
    obtain ⟨hF,hBF⟩:=rb_put fr5 (bthen HBA.out HB2.out) HBE.out.1 ⟨#[]⟩ ⟨#[]⟩
    have HF:=Lib.hid hF
    have HBF:=Lib.hid hBF
    clear hF hBF fr5
    go_wp2
    refine bodyPost_ret (zaR rfl _ _ B0 23 #[.string ⟨#[]⟩,.string ⟨#[]⟩] (0,0) _ rfl HF.out Tryz.underlying23 rfl (by kernel_rfl)) rfl ?_
    exact ⟨rfl,HBF.out⟩
theorem add_ans (a0 a1 b0 b1 r1 r2:ByteArray) (r3:Int) (h:rat_Add.f a0 a1 b0 b1=some (r1,r2,r3)):Ans 50 #[.agg #[.string a0,.string a1],.agg #[.string b0,.string b1]] (.tuple #[.agg #[.string r1,.string r2],.int .i64 r3]):=by
  unfold rat_Add.f at h
  by_cases ha:∃ x,RR a0 a1 x
  · obtain ⟨x,hx⟩:=ha
    by_cases hb:∃ y,RR b0 b1 y
    · obtain ⟨y,hy⟩:=hb
      rw [twoF_yes hx hy] at h
      rw [tell_ok] at h
      have h:=Option.some.inj h
      have e1:=congrArg (fun r=>r.1) h
      have e2:=congrArg (fun r=>r.2.1) h
      have e3:=congrArg (fun r=>r.2.2) h
      subst e1; subst e2; subst e3
      exact add_walk a0 a1 b0 b1 _ _ _ _ _ _ _ _ _ _ _ _ (zbz hx) (zbz hy) (read_ans hx) (read_ans hy) (plus_ans (rr_sz hx) (rr_sz hy) (by decide)) (told_ans _)
    · rw [twoF_no (fun e=>hb e.2)] at h
      cases h
      exact add_no a0 a1 b0 b1 true false rfl (zbz hx) (zbQ hb)
  · rw [twoF_no (fun e=>ha e.1)] at h
    cases h
    by_cases hb:∃ y,RR b0 b1 y
    · obtain ⟨y,hy⟩:=hb
      exact add_no a0 a1 b0 b1 false true rfl (zbQ ha) (zbz hy)
    · exact add_no a0 a1 b0 b1 false false rfl (zbQ ha) (zbQ hb)
end Go.Proofs.ZQ
end
