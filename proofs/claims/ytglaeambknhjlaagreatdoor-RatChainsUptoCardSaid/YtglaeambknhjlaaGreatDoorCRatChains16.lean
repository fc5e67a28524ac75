/- Texts under the proof, joined by a program (prune.py): QPlus, Q196, Q212, Q240, QFr4, QRefOps, QRatBk. -/
import Derived.Test.YtglaeambknhjlaaGreatDoorCRatChains11
import Derived.Test.YtglaeambknhjlaaGreatDoorCRatChains13
import Derived.Test.YtglaeambknhjlaaGreatDoorCRatChains14
import Derived.Test.YtglaeambknhjlaaGreatDoorCRatChains09
import Derived.Test.YtglaeambknhjlaaGreatDoorCRatChains15
set_option linter.unusedVariables false
set_option linter.unusedSimpArgs false
set_option exponentiation.threshold 20001
set_option maxHeartbeats 8000000
set_option maxRecDepth 100000
section
namespace Go.Proofs.ZQ
open Go.RowKit Go.Proofs.ZW.Wa Go.Proofs.ZP Go.Proofs.ZW.Wb Go.Proofs.ZW.Wc
def FrAt (w:World) (b:Nat) (s:Bool) (x y:ByteArray):Prop:=w.heap[b]? = some (.cells #[.bool s,.string x,.string y] 66 (0,0))
theorem FrAt.c0 {w:World} {b:Nat} {s:Bool} {x y:ByteArray} (h:FrAt w b s x y):w.cell? ⟨b,0,none⟩=some (.bool s):=(zaf h 0).trans rfl
theorem FrAt.c1 {w:World} {b:Nat} {s:Bool} {x y:ByteArray} (h:FrAt w b s x y):w.cell? ⟨b,1,none⟩=some (.string x):=(zaf h 1).trans rfl
theorem FrAt.c2 {w:World} {b:Nat} {s:Bool} {x y:ByteArray} (h:FrAt w b s x y):w.cell? ⟨b,2,none⟩=some (.string y):=(zaf h 2).trans rfl
theorem FrAt.below {w w':World} {b:Nat} {s:Bool} {x y:ByteArray} (h:FrAt w b s x y) (hb:Below w.heap.size w w'):FrAt w' b s x y:=(hb.block _ (zat h)).trans h
theorem FrAt.keep {w w':World} {b n:Nat} {s:Bool} {x y:ByteArray} (h:FrAt w b s x y) (hb:Below n w w') (hn:b<n):FrAt w' b s x y:=(hb.block _ hn).trans h
theorem FrAt.new (w:World) (s:Bool) (x y:ByteArray):FrAt (w.alloc (.cells #[.bool s,.string x,.string y] 66)) w.heap.size s x y:=zay w _
theorem FrAt.alloc {w:World} {b:Nat} {s:Bool} {x y:ByteArray} (h:FrAt w b s x y) (o:Obj):FrAt (w.alloc o) b s x y:=h.below (zaa (Below.refl _ _) _)
theorem fr_three (w:World) (s t u:Bool) (a b c d e f:ByteArray):FrAt (((w.alloc (.cells #[.bool s,.string a,.string b] 66)).alloc (.cells #[.bool t,.string c,.string d] 66)).alloc (.cells #[.bool u,.string e,.string f] 66)) w.heap.size s a b ∧
  FrAt (((w.alloc (.cells #[.bool s,.string a,.string b] 66)).alloc (.cells #[.bool t,.string c,.string d] 66)).alloc (.cells #[.bool u,.string e,.string f] 66)) (w.heap.size+1) t c d ∧
  FrAt (((w.alloc (.cells #[.bool s,.string a,.string b] 66)).alloc (.cells #[.bool t,.string c,.string d] 66)).alloc (.cells #[.bool u,.string e,.string f] 66)) (w.heap.size+1+1) u e f ∧
  Below w.heap.size w (((w.alloc (.cells #[.bool s,.string a,.string b] 66)).alloc (.cells #[.bool t,.string c,.string d] 66)).alloc (.cells #[.bool u,.string e,.string f] 66)):=by
 refine ⟨((FrAt.new w s a b).alloc _).alloc _,?_,?_,zaa (zaa (zaa (Below.refl _ _) _) _) _⟩
 ·have h:=(FrAt.new (w.alloc (.cells #[.bool s,.string a,.string b] 66)) t c d).alloc (.cells #[.bool u,.string e,.string f] 66)
  rw [World.size_alloc] at h
  exact h
 ·have h:=FrAt.new ((w.alloc (.cells #[.bool s,.string a,.string b] 66)).alloc (.cells #[.bool t,.string c,.string d] 66)) u e f
  rw [World.size_alloc,World.size_alloc] at h
  exact h
noncomputable def c2_Plus.f (a0_0:Bool) (a0_1:ByteArray) (a0_2:ByteArray) (a1_0:Bool) (a1_1:ByteArray) (a1_2:ByteArray):Option (Bool×ByteArray×ByteArray):=(c1_Times.f a0_1 a1_2).bind fun t601=>((c1_Times.f a1_1 a0_2).bind fun t602=>((c1_Times.f a0_2 a1_2).bind fun t603=>(if (a0_0 == a1_0)=true then ((c1_Plus.f t601 t602).bind fun t604=>((c2_Lowest.f a0_0 t604 t603).bind fun bt605=>(some (bt605.1,bt605.2.1,bt605.2.2)))) else ((c1_Compare.f t601 t602).bind fun t608=>(if t608≥0 then ((c1_Minus.f t601 t602).bind fun t609=>((c2_Lowest.f a0_0 t609 t603).bind fun bt610=>(some (bt610.1,bt610.2.1,bt610.2.2)))) else ((c1_Minus.f t602 t601).bind fun t613=>((c2_Lowest.f a1_0 t613 t603).bind fun bt614=>(some (bt614.1,bt614.2.1,bt614.2.2)))))))))
theorem c2_Plus.calls (a0_0:Bool) (a0_1:ByteArray) (a0_2:ByteArray) (a1_0:Bool) (a1_1:ByteArray) (a1_2:ByteArray) (r1:Bool) (r2:ByteArray) (r3:ByteArray) (w:World) (h:c2_Plus.f a0_0 a0_1 a0_2 a1_0 a1_1 a1_2=some (r1,r2,r3)) :
  Calls Tryz.prog 60 #[.agg #[.bool a0_0,.string a0_1,.string a0_2],.agg #[.bool a1_0,.string a1_1,.string a1_2]] w fun e w'=>e = .returned (.agg #[.bool r1,.string r2,.string r3])∧Below w.heap.size w w':=by
 unfold c2_Plus.f at h
 obtain ⟨x,hx,h2⟩:=Option.bind_eq_some_iff.1 h
 obtain ⟨y,hy,h3⟩:=Option.bind_eq_some_iff.1 h2
 obtain ⟨d,hd,h4⟩:=Option.bind_eq_some_iff.1 h3
 have HX:=Lib.hid (fun W=>c1_Times.calls a0_1 a1_2 x W hx)
 have HY:=Lib.hid (fun W=>c1_Times.calls a1_1 a0_2 y W hy)
 have HD:=Lib.hid (fun W=>c1_Times.calls a0_2 a1_2 d W hd)
 have H:=Lib.hid h4
 clear h h2 h3 h4 hx hy hd
 go_enter Tryz.func60,Tryz.ntmps60
 obtain ⟨fa,fb,fr,hba⟩:=fr_three w a0_0 a1_0 false a0_1 a0_2 a1_1 a1_2 ⟨#[]⟩ ⟨#[]⟩
 go_wp2_with fail
 generalize (((w.alloc (.cells #[.bool a0_0,.string a0_1,.string a0_2] 66)).alloc (.cells #[.bool a1_0,.string a1_1,.string a1_2] 66)).alloc (.cells #[.bool false,.string ⟨#[]⟩,.string ⟨#[]⟩] 66))=W0 at *
 generalize hBx:w.heap.size+1=X0 at *
 generalize hBe:X0+1=B0 at *
 have HBE:=Lib.hid (show w.heap.size≤B0 by omega)
 have HLT:=Lib.hid (show w.heap.size<B0∧X0<B0 by omega)
 have HK:=Lib.hid (show ∀ W':World,Below W0.heap.size W0 W'→W'.cell? ⟨w.heap.size,1,none⟩=some (.string a0_1)∧W'.cell? ⟨w.heap.size,2,none⟩=some (.string a0_2)∧W'.cell? ⟨X0,1,none⟩=some (.string a1_1)∧W'.cell? ⟨X0,2,none⟩=some (.string a1_2) from fun W' h=>⟨(fa.below h).c1,(fa.below h).c2,(fb.below h).c1,(fb.below h).c2⟩)
 clear hBe hBx
 have HLE:=Lib.hid (show B0≤W0.heap.size from Nat.le_of_lt (zat fr))
 have HFA:=Lib.hid fa
 have HFB:=Lib.hid fb
 have HFR:=Lib.hid fr
 have HBA:=Lib.hid hba
 clear fa fb fr hba
 go_region_held3 (fun w'=>w'.cell? ⟨w.heap.size,1,none⟩=some (.string a0_1)∧w'.cell? ⟨w.heap.size,2,none⟩=some (.string a0_2)∧w'.cell? ⟨X0,1,none⟩=some (.string a1_1)∧w'.cell? ⟨X0,2,none⟩=some (.string a1_2))
  (exact HK.out _ (by repeat (with_reducible first|exact Below.refl _ _|apply zaq|apply zab|refine bthen ?_ hb3|refine bthen ?_ hb2|refine bthen ?_ hb1)))
  ((first
   | (go_simp; go_at_call 131; (with_reducible change Calls _ _ #[.string a0_1,.string a1_2] _ _); refine (HX.out _).mono ?_; rintro e w1 ⟨rfl,hb1⟩)
   | (go_simp; go_at_call 131; (with_reducible change Calls _ _ #[.string a1_1,.string a0_2] _ _); refine (HY.out _).mono ?_; rintro e w2 ⟨rfl,hb2⟩)
   | (go_simp; go_at_call 131; (with_reducible change Calls _ _ #[.string a0_2,.string a1_2] _ _); refine (HD.out _).mono ?_; rintro e w3 ⟨rfl,hb3⟩)))
 rename_i hHeld
 clear hHeld
 have HB3:=Lib.hid (show Below W0.heap.size W0 w3 from by repeat (with_reducible first|exact Below.refl _ _|apply zaq|apply zab|refine bthen ?_ hb3|refine bthen ?_ hb2|refine bthen ?_ hb1))
 clear hb1 hb2 hb3 HX HY HD HK
 have q0:=(HFA.out.below HB3.out).c0
 have q1:=(HFB.out.below HB3.out).c0
 have HQ:=Lib.hid (show ∀ W':World,Below W0.heap.size W0 W'→W'.cell? ⟨w.heap.size,0,none⟩=some (.bool a0_0)∧W'.cell? ⟨X0,0,none⟩=some (.bool a1_0) from fun W' h=>⟨(HFA.out.below h).c0,(HFB.out.below h).c0⟩)
 have HQS:=Lib.hid (show ∀ (W':World) (u v t:Value),Below W0.heap.size W0 W'→(((W'.setCell ⟨B0,0,none⟩ u).setCell ⟨B0,1,none⟩ v).setCell ⟨B0,2,none⟩ t).cell? ⟨w.heap.size,0,none⟩=some (.bool a0_0)∧(((W'.setCell ⟨B0,0,none⟩ u).setCell ⟨B0,1,none⟩ v).setCell ⟨B0,2,none⟩ t).cell? ⟨X0,0,none⟩=some (.bool a1_0) from fun W' u v t h =>
  have k:=Below.setCell (p:=⟨B0,2,none⟩) (Below.setCell (p:=⟨B0,1,none⟩) (Below.setCell (p:=⟨B0,0,none⟩) (h.mono HLE.out) (Nat.le_refl _) u) (Nat.le_refl _) v) (Nat.le_refl _) t
  ⟨(HFA.out.keep k HLT.out.1).c0,(HFB.out.keep k HLT.out.2).c0⟩)
 by_cases hs:(a0_0 == a1_0)=true
 ·obtain ⟨t,ht,h⟩:=Option.bind_eq_some_iff.1 ((if_pos hs).symm.trans H.out)
  obtain ⟨⟨l0,l1,l2⟩,hl,h⟩:=Option.bind_eq_some_iff.1 h
  cases h
  have HT:=Lib.hid (fun W=>c1_Plus.calls x y t W ht)
  have HL:=Lib.hid (fun W=>c2_Lowest.calls a0_0 t d l0 l1 l2 W hl)
  clear ht hl H
  go_wp2_with fail
  go_region_held3 (fun w'=>w'.cell? ⟨w.heap.size,0,none⟩=some (.bool a0_0)∧w'.cell? ⟨X0,0,none⟩=some (.bool a1_0))
   (first|(with_reducible refine HQS.out _ _ _ _ ?_; repeat (with_reducible first|exact Below.refl _ _|exact HB3.out|apply zaq|apply zab|refine bthen ?_ hb5|refine bthen ?_ hb4|refine bthen ?_ hb6))|(with_reducible refine HQ.out _ ?_; repeat (with_reducible first|exact Below.refl _ _|exact HB3.out|apply zaq|apply zab|refine bthen ?_ hb5|refine bthen ?_ hb4|refine bthen ?_ hb6)))
   ((first
    | (go_simp; go_at_call 129; refine (HT.out _).mono ?_; rintro e w4 ⟨rfl,hb4⟩)
    | (go_simp; go_at_call 111; refine (HL.out _).mono ?_; rintro e w5 ⟨rfl,hb5⟩; have fr5:=HFR.out.below (show Below W0.heap.size W0 w5 from (by repeat (with_reducible first|exact Below.refl _ _|exact HB3.out|apply zaq|apply zab|refine bthen ?_ hb5|refine bthen ?_ hb4|refine bthen ?_ hb6))); have cB0:=fr5.c0; have cB1:=fr5.c1; have cB2:=fr5.c2; have fB0:=zae fr5 0; have fB1:=zae fr5 1; have fB2:=zae fr5 2)))
  have hs1:=zau fr5 0 (.bool l0)
  have hs2:=zau hs1 1 (.string l1)
  have hs3:=zau hs2 2 (.string l2)
  have HS3:=Lib.hid (hs3.trans (show _=some (Obj.cells #[.bool l0,.string l1,.string l2] 66 (0,0)) from rfl))
  have HBF:=Lib.hid (zag (zag (zag (g:=B0) (j:=0) (v:=.bool l0) (bthen HBA.out (show Below W0.heap.size W0 w5 from (by repeat (with_reducible first|exact Below.refl _ _|exact HB3.out|apply zaq|apply zab|refine bthen ?_ hb5|refine bthen ?_ hb4|refine bthen ?_ hb6)))) HBE.out) (j:=1) (v:=.string l1) (g:=B0) HBE.out) (j:=2) (v:=.string l2) (g:=B0) HBE.out)
  clear hs1 hs2 hs3 fr5 cB0 cB1 cB2 fB0 fB1 fB2 hb4 hb5
  go_wp2
  refine bodyPost_ret (results_cell_row rfl _ _ B0 66 #[.bool l0,.string l1,.string l2] (0,0) _ rfl HS3.out Tryz.underlying66 rfl (by kernel_rfl)) rfl ?_
  exact ⟨rfl,HBF.out⟩
 ·obtain ⟨c,hc,h⟩:=Option.bind_eq_some_iff.1 ((if_neg hs).symm.trans H.out)
  have HCc:=Lib.hid (fun W=>c1_Compare.calls x y c W hc)
  have hs':(a0_0 == a1_0)=false:=by simpa using hs
  clear hc hs H
  go_wp2_with fail
  refine (HCc.out _).mono ?_
  rintro e w6 ⟨rfl,hb6⟩
  by_cases hg:c≥0
  ·obtain ⟨t,ht,h⟩:=Option.bind_eq_some_iff.1 ((if_pos hg).symm.trans h)
   obtain ⟨⟨l0,l1,l2⟩,hl,h⟩:=Option.bind_eq_some_iff.1 h
   cases h
   have HT:=Lib.hid (fun W=>c1_Minus.calls x y t W ht)
   have HL:=Lib.hid (fun W=>c2_Lowest.calls a0_0 t d l0 l1 l2 W hl)
   clear ht hl HCc
   go_wp2_with fail
   go_region_held3 (fun w'=>w'.cell? ⟨w.heap.size,0,none⟩=some (.bool a0_0)∧w'.cell? ⟨X0,0,none⟩=some (.bool a1_0))
    (first|(with_reducible refine HQS.out _ _ _ _ ?_; repeat (with_reducible first|exact Below.refl _ _|exact HB3.out|apply zaq|apply zab|refine bthen ?_ hb5|refine bthen ?_ hb4|refine bthen ?_ hb6))|(with_reducible refine HQ.out _ ?_; repeat (with_reducible first|exact Below.refl _ _|exact HB3.out|apply zaq|apply zab|refine bthen ?_ hb5|refine bthen ?_ hb4|refine bthen ?_ hb6)))
    ((first
     | (go_simp; go_at_call 130; refine (HT.out _).mono ?_; rintro e w4 ⟨rfl,hb4⟩)
     | (go_simp; go_at_call 111; refine (HL.out _).mono ?_; rintro e w5 ⟨rfl,hb5⟩; have fr5:=HFR.out.below (show Below W0.heap.size W0 w5 from (by repeat (with_reducible first|exact Below.refl _ _|exact HB3.out|apply zaq|apply zab|refine bthen ?_ hb5|refine bthen ?_ hb4|refine bthen ?_ hb6))); have cB0:=fr5.c0; have cB1:=fr5.c1; have cB2:=fr5.c2; have fB0:=zae fr5 0; have fB1:=zae fr5 1; have fB2:=zae fr5 2)))
   have hs1:=zau fr5 0 (.bool l0)
   have hs2:=zau hs1 1 (.string l1)
   have hs3:=zau hs2 2 (.string l2)
   have HS3:=Lib.hid (hs3.trans (show _=some (Obj.cells #[.bool l0,.string l1,.string l2] 66 (0,0)) from rfl))
   have HBF:=Lib.hid (zag (zag (zag (g:=B0) (j:=0) (v:=.bool l0) (bthen HBA.out (show Below W0.heap.size W0 w5 from (by repeat (with_reducible first|exact Below.refl _ _|exact HB3.out|apply zaq|apply zab|refine bthen ?_ hb5|refine bthen ?_ hb4|refine bthen ?_ hb6)))) HBE.out) (j:=1) (v:=.string l1) (g:=B0) HBE.out) (j:=2) (v:=.string l2) (g:=B0) HBE.out)
   clear hs1 hs2 hs3 fr5 cB0 cB1 cB2 fB0 fB1 fB2 hb4 hb5
   go_wp2
   refine bodyPost_ret (results_cell_row rfl _ _ B0 66 #[.bool l0,.string l1,.string l2] (0,0) _ rfl HS3.out Tryz.underlying66 rfl (by kernel_rfl)) rfl ?_
   exact ⟨rfl,HBF.out⟩
  ·obtain ⟨t,ht,h⟩:=Option.bind_eq_some_iff.1 ((if_neg hg).symm.trans h)
   obtain ⟨⟨l0,l1,l2⟩,hl,h⟩:=Option.bind_eq_some_iff.1 h
   cases h
   have HT:=Lib.hid (fun W=>c1_Minus.calls y x t W ht)
   have HL:=Lib.hid (fun W=>c2_Lowest.calls a1_0 t d l0 l1 l2 W hl)
   clear ht hl HCc
   go_wp2_with fail
   go_region_held3 (fun w'=>w'.cell? ⟨w.heap.size,0,none⟩=some (.bool a0_0)∧w'.cell? ⟨X0,0,none⟩=some (.bool a1_0))
    (first|(with_reducible refine HQS.out _ _ _ _ ?_; repeat (with_reducible first|exact Below.refl _ _|exact HB3.out|apply zaq|apply zab|refine bthen ?_ hb5|refine bthen ?_ hb4|refine bthen ?_ hb6))|(with_reducible refine HQ.out _ ?_; repeat (with_reducible first|exact Below.refl _ _|exact HB3.out|apply zaq|apply zab|refine bthen ?_ hb5|refine bthen ?_ hb4|refine bthen ?_ hb6)))
    ((first
     | (go_simp; go_at_call 130; refine (HT.out _).mono ?_; rintro e w4 ⟨rfl,hb4⟩)
     | (go_simp; go_at_call 111; refine (HL.out _).mono ?_; rintro e w5 ⟨rfl,hb5⟩; have fr5:=HFR.out.below (show Below W0.heap.size W0 w5 from (by repeat (with_reducible first|exact Below.refl _ _|exact HB3.out|apply zaq|apply zab|refine bthen ?_ hb5|refine bthen ?_ hb4|refine bthen ?_ hb6))); have cB0:=fr5.c0; have cB1:=fr5.c1; have cB2:=fr5.c2; have fB0:=zae fr5 0; have fB1:=zae fr5 1; have fB2:=zae fr5 2)))
   have hs1:=zau fr5 0 (.bool l0)
   have hs2:=zau hs1 1 (.string l1)
   have hs3:=zau hs2 2 (.string l2)
   have HS3:=Lib.hid (hs3.trans (show _=some (Obj.cells #[.bool l0,.string l1,.string l2] 66 (0,0)) from rfl))
   have HBF:=Lib.hid (zag (zag (zag (g:=B0) (j:=0) (v:=.bool l0) (bthen HBA.out (show Below W0.heap.size W0 w5 from (by repeat (with_reducible first|exact Below.refl _ _|exact HB3.out|apply zaq|apply zab|refine bthen ?_ hb5|refine bthen ?_ hb4|refine bthen ?_ hb6)))) HBE.out) (j:=1) (v:=.string l1) (g:=B0) HBE.out) (j:=2) (v:=.string l2) (g:=B0) HBE.out)
   clear hs1 hs2 hs3 fr5 cB0 cB1 cB2 fB0 fB1 fB2 hb4 hb5
   go_wp2
   refine bodyPost_ret (results_cell_row rfl _ _ B0 66 #[.bool l0,.string l1,.string l2] (0,0) _ rfl HS3.out Tryz.underlying66 rfl (by kernel_rfl)) rfl ?_
   exact ⟨rfl,HBF.out⟩
end Go.Proofs.ZQ
end
section
namespace Go.Proofs.ZQ
open Go.RowKit Go.Proofs.ZW.Wa Go.Proofs.ZW.Wb Go.Proofs.ZW.Wc
attribute [local go_sem] zaJ zaH zaQ zaP zaA zaz zaI zaG
noncomputable def c2_Times.f (a0_0:Bool) (a0_1:ByteArray) (a0_2:ByteArray) (a1_0:Bool) (a1_1:ByteArray) (a1_2:ByteArray):Option (Bool×ByteArray×ByteArray):=(c1_Times.f a0_1 a1_1).bind fun t618=>((c1_Times.f a0_2 a1_2).bind fun t619=>((c2_Lowest.f (a0_0 != a1_0) t618 t619).bind fun bt620=>(some (bt620.1,bt620.2.1,bt620.2.2))))
noncomputable def c2_Times.B1:List Nat:=[0,1,0,4,15,0,32,0,128,480,0,1024,0,4096,16352,32767,65535]
noncomputable def c2_Minus.f (a0_0:Bool) (a0_1:ByteArray) (a0_2:ByteArray):Option (Bool×ByteArray×ByteArray):=if a0_0=true then (some (false,a0_1,a0_2)) else (some ((a0_1.toList != ([48]:List UInt8)),a0_1,a0_2))
noncomputable def c2_Over.f (a0_0:Bool) (a0_1:ByteArray) (a0_2:ByteArray):Option (Bool×ByteArray×ByteArray):=some (a0_0,a0_2,a0_1)
end Go.Proofs.ZQ
end
section
namespace Go.Proofs.ZQ
open Go.RowKit Go.Proofs.ZW.Wa Go.Proofs.ZP
def Sz (k:Nat) (x:Rat):Prop:=(T x.num.natAbs).size≤k∧(T x.den).size≤k
theorem rr_sz {a b:ByteArray} {x:Rat} (h:RR a b x):Sz 600 x:=⟨(zar (k:=600) (by decide)).2 h.ln,(zar (k:=600) (by decide)).2 h.ld⟩
theorem sz_div {s:Bool} {a b k:Nat} (hb:0<b) (ha:(T a).size≤k) (hbs:(T b).size≤k):Sz k (Rat.divInt (sgn s a) b):=by
 obtain ⟨f1,f2,f3⟩:=zdq s a b hb
 refine ⟨?_,?_⟩
 ·rw [f1]; exact Nat.le_trans (za0 (Nat.div_le_self _ _)) ha
 ·rw [f2]; exact Nat.le_trans (za0 (Nat.div_le_self _ _)) hbs
theorem Plus_Fr {x y:Rat} {k:Nat} (hx:Sz k x) (hy:Sz k y) (hk:k≤1000000):c2_Plus.f (Fr x).1 (Fr x).2.1 (Fr x).2.2 (Fr y).1 (Fr y).2.1 (Fr y).2.2=some (Fr (x+y))∧Sz (2*k+1) (x+y):=by
 have hxd:=x.den_pos
 have hyd:=y.den_pos
 obtain ⟨hx1,hx2⟩:=hx
 obtain ⟨hy1,hy2⟩:=hy
 have hsum:x+y=Rat.divInt (sgn (decide (x.num<0)) (x.num.natAbs*y.den)+sgn (decide (y.num<0)) (y.num.natAbs*x.den)) ((x.den*y.den:Nat):Int):=by
  rw [add_divInt,←zc1,←zc1,sgn_of,sgn_of,Int.natCast_mul]
 rw [hsum]
 unfold c2_Plus.f
 show (c1_Times.f (T x.num.natAbs) (T y.den)).bind _=_∧_
 have m1:=zb4 x.num.natAbs y.den
 have m2:=zb4 y.num.natAbs x.den
 have m3:=zb4 x.den y.den
 have hd:0<x.den*y.den:=Nat.mul_pos hxd hyd
 rw [Times_T (by omega) (by omega),Option.bind_some]
 show (c1_Times.f (T y.num.natAbs) (T x.den)).bind _=_∧_
 rw [Times_T (by omega) (by omega),Option.bind_some]
 show (c1_Times.f (T x.den) (T y.den)).bind _=_∧_
 rw [Times_T (by omega) (by omega),Option.bind_some]
 show (if (decide (x.num<0) == decide (y.num<0))=true then _ else _)=_∧_
 have e1:(Fr x).1=decide (x.num<0):=rfl
 have e2:(Fr y).1=decide (y.num<0):=rfl
 rw [e1,e2]
 generalize decide (x.num<0)=s
 generalize decide (y.num<0)=t
 generalize x.num.natAbs*y.den=A at *
 generalize y.num.natAbs*x.den=B at *
 generalize x.den*y.den=C at *
 have hadd:=T_size_add A B (2*k) (by omega) (by omega)
 by_cases hst:s=t
 ·subst hst
  rw [if_pos (beq_self_eq_true s),Plus_T (by omega) (by omega),Option.bind_some,lowest_T s (A+B) C hd (by omega) (by omega),Option.bind_some,sgn_add_same]
  exact ⟨rfl,sz_div hd (by omega) (by omega)⟩
 ·rw [if_neg (fun e=>hst (beq_iff_eq.1 e)),Compare_T (by omega) (by omega),Option.bind_some]
  by_cases hle:B≤A
  ·have hc:cmpN A B≥0:=by unfold cmpN; split; omega; split<;>omega
   have h3:(T (A-B)).size≤(T A).size:=za0 (Nat.sub_le _ _)
   rw [if_pos hc,Minus_T (by omega) (by omega) hle,Option.bind_some,lowest_T s (A-B) C hd (by omega) (by omega),Option.bind_some,sgn_add_ge s t A B hst hle]
   exact ⟨rfl,sz_div hd (by omega) (by omega)⟩
  ·have hc:¬ cmpN A B≥0:=by unfold cmpN; rw [if_pos (by omega)]; decide
   have h3:(T (B-A)).size≤(T B).size:=za0 (Nat.sub_le _ _)
   rw [if_neg hc,Minus_T (by omega) (by omega) (by omega),Option.bind_some,lowest_T t (B-A) C hd (by omega) (by omega),Option.bind_some,sgn_add_lt s t A B hst (by omega)]
   exact ⟨rfl,sz_div hd (by omega) (by omega)⟩
theorem core_no {a b:ByteArray} (h:¬ ∃ x,RR a b x):coreB (spl a).1 (spl a).2 b=false:=by
 cases hc:coreB (spl a).1 (spl a).2 b
 ·rfl
 ·exact absurd ((core_iff a b).1 hc) h
theorem right_yes {a b:ByteArray} {x:Rat} (h:RR a b x):Ev (fun k=>c2_Right.f k a b) true:=by
 have:=right_ev a b
 rwa [(core_iff a b).2 ⟨x,h⟩] at this
theorem right_no {a b:ByteArray} (h:¬ ∃ x,RR a b x):Ev (fun k=>c2_Right.f k a b) false:=by
 have:=right_ev a b
 rwa [core_no h] at this
end Go.Proofs.ZQ
end
section
namespace Go.Proofs.ZQ
open Go.RowKit Go.Proofs.ZW.Wa Go.Proofs.ZP Go.Proofs.ZW.Wb Go.Proofs.ZW.Wc
def RbAt (w:World) (b:Nat) (x y:ByteArray):Prop:=w.heap[b]? = some (.cells #[.string x,.string y] 23 (0,0))
theorem RbAt.c0 {w:World} {b:Nat} {x y:ByteArray} (h:RbAt w b x y):w.cell? ⟨b,0,none⟩=some (.string x):=(zaf h 0).trans rfl
theorem RbAt.c1 {w:World} {b:Nat} {x y:ByteArray} (h:RbAt w b x y):w.cell? ⟨b,1,none⟩=some (.string y):=(zaf h 1).trans rfl
theorem RbAt.below {w w':World} {b:Nat} {x y:ByteArray} (h:RbAt w b x y) (hb:Below w.heap.size w w'):RbAt w' b x y:=(hb.block _ (zat h)).trans h
theorem RbAt.keep {w w':World} {b n:Nat} {x y:ByteArray} (h:RbAt w b x y) (hb:Below n w w') (hn:b<n):RbAt w' b x y:=(hb.block _ hn).trans h
theorem RbAt.new (w:World) (x y:ByteArray):RbAt (w.alloc (.cells #[.string x,.string y] 23)) w.heap.size x y:=zay w _
theorem RbAt.alloc {w:World} {b:Nat} {x y:ByteArray} (h:RbAt w b x y) (o:Obj):RbAt (w.alloc o) b x y:=h.below (zaa (Below.refl _ _) _)
theorem rb_put {w w2:World} {D:Nat} {x y:ByteArray} (f:RbAt w2 D x y) (hb:Below w.heap.size w w2) (hD:w.heap.size≤D) (u v:ByteArray):RbAt ((w2.setCell ⟨D,0,none⟩ (.string u)).setCell ⟨D,1,none⟩ (.string v)) D u v∧Below w.heap.size w ((w2.setCell ⟨D,0,none⟩ (.string u)).setCell ⟨D,1,none⟩ (.string v)):=
 ⟨(zau (zau f 0 (.string u)) 1 (.string v)).trans rfl,zag (zag hb hD) hD⟩
def Ans (f:FuncId) (args:Array Value) (v:Value):Prop:=∀ W:World,Calls Tryz.prog f args W fun e w'=>e = .returned v∧Below W.heap.size W w'
theorem zct {a b:ByteArray} {x:Rat} (h:RR a b x):Ans 36 #[.agg #[.string a,.string b]] (.bool true):=fun W=>by
 obtain ⟨k,hk⟩:=(right_yes h).rounds
 exact c2_Right.calls k a b true W hk
theorem right_ans_no {a b:ByteArray} (h:¬ ∃ x,RR a b x):Ans 36 #[.agg #[.string a,.string b]] (.bool false):=fun W=>by
 obtain ⟨k,hk⟩:=(right_no h).rounds
 exact c2_Right.calls k a b false W hk
def FrV (x:Rat):Value:=.agg #[.bool (Fr x).1,.string (Fr x).2.1,.string (Fr x).2.2]
theorem read_ans {a b:ByteArray} {x:Rat} (h:RR a b x):Ans 61 #[.agg #[.string a,.string b]] (FrV x):=fun W=>by
 obtain ⟨k,hk⟩:=(read_ev a b x h).rounds
 exact c2_Read.calls k a b _ _ _ W hk
theorem told_ans (x:Rat):Ans 110 #[FrV x] (.tuple #[.agg #[.string (toldR x).1,.string (toldR x).2.1],.int .i64 (toldR x).2.2]):=fun W=>by
 obtain ⟨k,hk⟩:=(told_ev x).rounds
 exact c2_Told.calls k _ _ _ _ _ _ W hk
theorem plus_ans {x y:Rat} {k:Nat} (hx:Sz k x) (hy:Sz k y) (hk:k≤1000000):Ans 60 #[FrV x,FrV y] (FrV (x+y)):=fun W=>c2_Plus.calls _ _ _ _ _ _ _ _ _ W (Plus_Fr hx hy hk).1
theorem C_str {w:World} {A:Option Addr} {l:List ByteArray} (h:Kd.C Kd.string w A l.length l) {j:Nat} (hj:j<l.length):∃ ad,A=some ad∧w.cell? (ad.add j)=some (.string l[j]):=by
 obtain ⟨ad,he,hc⟩:=h.2.2 (by omega)
 obtain ⟨c',h1,h2,h3⟩:=hc j l[j] (List.getElem?_eq_getElem hj)
 have h2:c' = [.string l[j]]:=h2
 subst h2
 have h4:=h3 0 (.string l[j]) rfl
 rw [show j*Kd.string.sz+0=j from Nat.mul_one j] at h4
 exact ⟨ad,he,h4⟩
structure BSt (w wr:World) (g n:Nat) (ns:Nat→Int) (ds:List Nat):Prop where
 le:ds.length≤n
 blk:wr.heap[g]? = some (.cells (ptrs n ds).toArray 101 (0,0))
 at_:∀ j (h:j<ds.length),w.heap.size≤ds[j]∧g≠ds[j]∧IntAt wr ds[j] 0 (ns j)
 below:Below w.heap.size w wr
 ge:w.heap.size≤g
theorem BSt.below' {w wr w':World} {g n:Nat} {ns:Nat→Int} {ds:List Nat} (h:BSt w wr g n ns ds) (hb:Below wr.heap.size wr w'):BSt w w' g n ns ds where
 le:=h.le
 blk:=(hb.block _ (zat h.blk)).trans h.blk
 at_:=fun j hj=>by
  obtain ⟨h1,h2,h3⟩:=h.at_ j hj
  exact ⟨h1,h2,h3.below hb⟩
 below:=bthen h.below hb
 ge:=h.ge
theorem ptrs_set {n:Nat} {ds:List Nat} (h:ds.length<n) (d:Nat):(ptrs n ds).toArray.setIfInBounds ds.length (.pointer (some ⟨d,0,none⟩))=(ptrs n (ds ++ [d])).toArray:=by
 rw [List.setIfInBounds_toArray]
 congr 1
 rw [List.set_eq_take_append_cons_drop,if_pos (by rw [zbI (Nat.le_of_lt h)]; exact h)]
 exact ptrs_snoc h d
theorem zc5 {wr:World} {g d j:Nat} {cs:Array Value} {v:Value} {x:Int} (hx:IntAt wr d 0 x) (hb:wr.heap[g]? = some (.cells cs 101 (0,0))) (hne:g≠d):IntAt (wr.setCell ⟨g,j,none⟩ v) d 0 x:=
 IntAt.same hx (Below.heap_setCell wr ⟨g,j,none⟩ v d (fun e=>hne e.symm)) (fun k cs' hk=>Below.heap_setCell wr ⟨g,j,none⟩ v k (by
  intro e
  change k=g at e
  subst e
  rw [hb] at hk
  injection hk with hk
  injection hk with _ hk
  exact absurd hk (by decide)))
theorem BSt.more {w wr:World} {g n:Nat} {ns:Nat→Int} {ds:List Nat} (h:BSt w wr g n ns ds) (hl:ds.length<n) (d:Nat) (hd:w.heap.size≤d) (hne:g≠d) (hx:IntAt wr d 0 (ns ds.length)):BSt w (wr.setCell ⟨g,ds.length,none⟩ (.pointer (some ⟨d,0,none⟩))) g n ns (ds ++ [d]) where
 le:=by simp; omega
 blk:=by rw [zau h.blk ds.length (.pointer (some ⟨d,0,none⟩)),ptrs_set hl]
 at_:=fun j hj=>by
  rw [List.length_append,List.length_singleton] at hj
  by_cases e:j<ds.length
  ·obtain ⟨h1,h2,h3⟩:=h.at_ j e
   rw [List.getElem_append_left e]
   exact ⟨h1,h2,zc5 h3 h.blk h2⟩
  ·have:j=ds.length:=by omega
   subst this
   rw [List.getElem_append_right (Nat.le_refl _)]
   simp only [Nat.sub_self,List.getElem_cons_zero]
   exact ⟨hd,hne,zc5 hx h.blk hne⟩
 below:=zag h.below h.ge
 ge:=h.ge
theorem infoPI:(Tryz.prog.info? 101).map (fun i=>(i.zero,i.size,i.bytes))=some (some (.pointer none),1,8):=by kernel_rfl
theorem BSt.start (w w0:World) (hb:Below w.heap.size w w0) (n:Nat) (ns:Nat→Int):BSt w (w0.alloc (.cells (madeCells #[Value.pointer none] n) 101)) w0.heap.size n ns [] where
 le:=Nat.zero_le _
 blk:=by rw [made_ptrs]; exact zay w0 _
 at_:=fun j hj=>by simp at hj
 below:=zaa hb _
 ge:=hb.size
theorem zb7 {n:Nat} {ds:List Nat} (h:ds.length<n):(ptrs n ds).toArray[ds.length]? = some (.pointer none):=by
 rw [List.getElem?_toArray]
 unfold ptrs
 rw [List.getElem?_append_right (by simp),List.length_map,Nat.sub_self,List.getElem?_replicate,if_pos (by omega)]
theorem zcI {n:Nat} {ds:List Nat} {j:Nat} (h:j<ds.length):(ptrs n ds).toArray[j]? = some (.pointer (some ⟨ds[j],0,none⟩)):=by
 rw [List.getElem?_toArray]
 exact ptrs_at h
structure Bgd (l:List ByteArray) (ns:Nat→Int) (m:Nat):Prop where
 txt:∀ i (h:i<l.length),i<m→l[i]=wtext (ns i)∧(ns i).natAbs<10^600∧(0<i→1≤ns i)
theorem BSt.upd' {w wr w':World} {g n z lo hi:Nat} {ns:Nat→Int} {ds:List Nat} (h:BSt w wr g n ns ds) (hu:Upd wr w' z lo hi) (hz:w.heap.size≤z) (hg:g≠z) (hd:∀ j (h:j<ds.length),ds[j]≠z):BSt w w' g n ns ds where
 le:=h.le
 blk:=(hu.other _ (zat h.blk) hg).trans h.blk
 at_:=fun j hj=>by
  obtain ⟨h1,h2,h3⟩:=h.at_ j hj
  exact ⟨h1,h2,h3.upd hu (Or.inl (hd j hj))⟩
 below:=hu.new h.below hz
 ge:=h.ge
theorem BSt.apart {w wr:World} {g n:Nat} {ns:Nat→Int} {ds:List Nat} (h:BSt w wr g n ns ds):∀ j (h:j<ds.length),ds[j]≠wr.heap.size:=fun j hj e=>by
 obtain ⟨_,_,h3⟩:=h.at_ j hj
 have:=h3.lt
 omega
theorem BSt.cell {w wr:World} {g n:Nat} {ns:Nat→Int} {ds:List Nat} (h:BSt w wr g n ns ds) {j:Nat} (hj:j<ds.length):wr.cell? ⟨g,j,none⟩=some (.pointer (some ⟨ds[j],0,none⟩)):=(zaf h.blk j).trans (zcI hj)
def suf (n:Nat) (ns:Nat→Int) (k:Nat):List Int:=((List.range n).drop k).map ns
theorem suf_cons {n:Nat} {ns:Nat→Int} {k:Nat} (h:k<n):suf n ns k=ns k :: suf n ns (k+1):=by
 unfold suf
 rw [List.drop_eq_getElem_cons (by rw [List.length_range]; exact h),List.map_cons,List.getElem_range]
theorem suf_len (n:Nat) (ns:Nat→Int) (k:Nat):(suf n ns k).length=n-k:=by unfold suf; simp
theorem suf_last {n:Nat} {ns:Nat→Int} {k:Nat} (h:k+1=n):suf n ns k = [ns k]:=by
 rw [suf_cons (by omega)]
 congr 1
 exact List.eq_nil_of_length_eq_zero (by rw [suf_len]; omega)
theorem bck_suf {n:Nat} {ns:Nat→Int} {k:Nat} (h:k+1<n):bck (suf n ns k)=(ns k:Rat)+(bck (suf n ns (k+1)))⁻¹:=by
 rw [suf_cons (by omega),bck_cons _ (fun e=>by have:=suf_len n ns (k+1); rw [e] at this; simp at this; omega)]
theorem Bgd.ones {l:List ByteArray} {ns:Nat→Int} {k:Nat} (h:Bgd l ns l.length) (hk:0<k):Ones (suf l.length ns k):=by
 intro a ha
 unfold suf at ha
 obtain ⟨i,hi,rfl⟩:=List.mem_map.1 ha
 obtain ⟨j,hj,rfl⟩:=List.getElem_of_mem hi
 rw [List.getElem_drop,List.getElem_range]
 rw [List.length_drop,List.length_range] at hj
 exact (h.txt (k+j) (by omega) (by omega)).2.2 (by omega)
theorem Bgd.ne {l:List ByteArray} {ns:Nat→Int} {k:Nat} (h:Bgd l ns l.length) (hk:0<k) (hl:k<l.length):bck (suf l.length ns k)≠0:=fun e=>by
 have:=(bck_pos _ (fun e=>by have:=suf_len l.length ns k; rw [e] at this; simp at this; omega) (h.ones hk)).1
 rw [e] at this
 exact absurd this (by decide)
theorem bd_ns {x:Int} (h:x.natAbs<10^600):Bd 2000 x:=by
 unfold Bd
 have:10^600≤2^2000:=by decide
 omega
theorem Bgd.bd {l:List ByteArray} {ns:Nat→Int} (h:Bgd l ns l.length):∀ (m k:Nat),k+m+1=l.length→Bdr (2001*(m+1)) (bck (suf l.length ns k)):=by
 intro m
 induction m with
 | zero =>
  intro k hk
  rw [suf_last (by omega)]
  exact (Bdr.int (bd_ns (h.txt k (by omega) (by omega)).2.1) (by decide)).mono (by decide)
 | succ m ih =>
  intro k hk
  rw [bck_suf (by omega)]
  exact ((Bdr.int (bd_ns (h.txt k (by omega) (by omega)).2.1) (by decide)).add ((ih (k+1) (by omega)).inv (h.ne (by omega) (by omega)))).mono (by omega)
theorem back_yes (A:Option Addr) (c:Nat) (l:List ByteArray) (ns:Nat→Int) (w:World) (hr:Kd.C Kd.string w A l.length l) (hn:0<l.length) (hln:l.length≤100000000) (hg:Bgd l ns l.length) :
  Calls Tryz.prog 47 #[.slice A l.length c] w fun e w'=>e = .returned (.tuple #[.agg #[.string (toldR (bck ((List.range l.length).map ns))).1,.string (toldR (bck ((List.range l.length).map ns))).2.1],.int .i64 (toldR (bck ((List.range l.length).map ns))).2.2])∧Below w.heap.size w w':=by
 have hmk:=zdj (P:=Tryz.prog) 129 101 (.pointer none) 8 Tryz.underlying129 infoPI rfl (by decide) l.length (by omega)
 have hu112:=Tryz.underlying112
 have HC:=Lib.hid hr
 have HG:=Lib.hid hg
 have fr:=RbAt.new w ⟨#[]⟩ ⟨#[]⟩
 have hba:=zaa (Below.refl w.heap.size w) (.cells #[.string ⟨#[]⟩,.string ⟨#[]⟩] 23)
 have HS0:=Lib.hid (BSt.start w (w.alloc (.cells #[.string ⟨#[]⟩,.string ⟨#[]⟩] 23)) hba l.length ns)
 have HR0:=Lib.hid (fr.alloc (.cells (madeCells #[Value.pointer none] l.length) 101))
 have hgz:(w.alloc (.cells #[.string ⟨#[]⟩,.string ⟨#[]⟩] 23)).heap.size=w.heap.size+1:=World.size_alloc _ _
 rw [hgz] at HS0
 have hz0:((l.length:Int) == 0)=false:=beq_eq_false_iff_ne.2 (by omega)
 clear hr hg fr hba hgz
 go_enter Tryz.func47,Tryz.ntmps47
 go_wp2
 generalize (w.alloc (.cells #[.string ⟨#[]⟩,.string ⟨#[]⟩] 23)).alloc (.cells (madeCells #[Value.pointer none] l.length) 101)=W0 at *
 generalize hg:w.heap.size+1=g at *
 have HGG:=Lib.hid hg
 clear hg hmk
 go_loopw [18] (fun vi wr=>∃ (i:Nat) (ds:List Nat),i≤l.length∧vi = .int .i64 i∧Hid (ds.length=i)∧Hid (BSt w wr g l.length ns ds)∧Hid (RbAt wr w.heap.size ⟨#[]⟩ ⟨#[]⟩)) (fun vi _=>l.length-(intOf vi).toNat)
 case atStart=>exact ⟨0,[],Nat.zero_le _,rfl,Lib.hid rfl,HS0,HR0⟩
 case round =>
  obtain ⟨i,ds,hi,rfl,HL,HS,HR⟩:=hrel
  by_cases hin:i<l.length
  ·obtain ⟨ad,rfl,hcell⟩:=C_str (Kd.C_below HC.out HS.out.below) hin
   obtain ⟨g1,g2,g3⟩:=HG.out.txt i hin hin
   rw [g1] at hcell
   have hge:=HS.out.ge
   have hgl:=zat HS.out.blk
   have HG2:=Lib.hid g2
   have HG3:=Lib.hid g3
   clear g1 g2 g3
   by_cases hi0:i=0
   ·have hib:((i:Int) == 0)=true:=beq_iff_eq.2 (by omega)
    have hip:decide ((0:Int)<(i:Int))=false:=decide_eq_false (by omega)
    have hip2:((0:Int)<(i:Int))=False:=eq_false (by omega)
    have hip3:(0<i)=False:=eq_false (by omega)
    have hip4:((i:Int)≤0)=True:=eq_true (by omega)
    clear hi0
    go_wp2_with fail
    refine (zci (ns i) _ HG2.out).mono ?_
    rintro e w1 ⟨D,rfl,hD,hx1,hb1⟩
    have HS1:=HS.out.below' hb1
    have hgd:g≠D:=by omega
    have hwd:w.heap.size≤D:=by omega
    have hdl:=HL.out
    have c0:w1.cell? ⟨g,i,none⟩=some (.pointer none):=by
     have h:=zb7 (n:=l.length) (ds:=ds) (by omega)
     rw [hdl] at h
     exact (zaf HS1.blk i).trans h
    have f0:=zae HS1.blk i
    have hM:=HS1.more (by omega) D hwd hgd (by rw [hdl]; exact hx1)
    rw [hdl] at hM
    have HM:=Lib.hid hM
    have HL2:=Lib.hid (show (ds ++ [D]).length=i+1 by rw [List.length_append,hdl]; rfl)
    have HD:=Lib.hid (zc5 (j:=i) (v:=.pointer (some ⟨D,0,none⟩)) hx1 HS1.blk hgd)
    have c1:(w1.setCell ⟨g,i,none⟩ (.pointer (some ⟨D,0,none⟩))).cell? ⟨g,i,none⟩=some (.pointer (some ⟨D,0,none⟩)):=by
     have hb:=HM.out.blk
     rw [(zaf hb i)]
     have:=zcI (n:=l.length) (ds:=ds ++ [D]) (j:=i) (by rw [HL2.out]; omega)
     rw [this]
     have h9:(ds ++ [D])[i]'(by rw [HL2.out]; omega)=D:=by
      rw [List.getElem_append_right (by omega)]
      simp
     rw [h9]
    have HRB:=Lib.hid (show RbAt (w1.setCell ⟨g,i,none⟩ (.pointer (some ⟨D,0,none⟩))) w.heap.size ⟨#[]⟩ ⟨#[]⟩ from (Below.heap_setCell w1 ⟨g,i,none⟩ _ _ (by have:=HGG.out; show w.heap.size≠g; omega)).trans (HR.out.below hb1))
    clear hM hdl HS1 hb1 hx1 hD
    go_wp2
    go_roundw
    case rel=>exact ⟨i+1,ds ++ [D],by omega,by go_num,HL2,HM,HRB⟩
    case measure=>simp [intOf]; omega
   ·have hib:((i:Int) == 0)=false:=beq_eq_false_iff_ne.2 (by omega)
    have hip:decide ((0:Int)<(i:Int))=true:=decide_eq_true (by omega)
    have h1i:=HG3.out (by omega)
    have hxe:ns i=(((ns i).natAbs:Nat):Int):=by omega
    have hwt:wtext (ns i)=T (ns i).natAbs:=zaF (by omega)
    rw [hwt] at hcell
    have HN:=Lib.hid (fun W=>za9 (ns i).natAbs W HG2.out)
    have HXE:=Lib.hid hxe
    have HSG:=Lib.hid (show (ns i).sign≠0 from fun e=>by have:=Int.sign_eq_zero_iff_zero.1 e; omega)
    clear h1i hxe hwt
    go_wp2_with fail
    refine (HN.out _).mono ?_
    rintro e w1 ⟨D,rfl,hD,hx1,hb1⟩
    rw [←HXE.out] at hx1
    have HS1:=HS.out.below' hb1
    have hgd:g≠D:=by omega
    have hwd:w.heap.size≤D:=by omega
    have hdl:=HL.out
    have c0:w1.cell? ⟨g,i,none⟩=some (.pointer none):=by
     have h:=zb7 (n:=l.length) (ds:=ds) (by omega)
     rw [hdl] at h
     exact (zaf HS1.blk i).trans h
    have f0:=zae HS1.blk i
    have hM:=HS1.more (by omega) D hwd hgd (by rw [hdl]; exact hx1)
    rw [hdl] at hM
    have HM:=Lib.hid hM
    have HL2:=Lib.hid (show (ds ++ [D]).length=i+1 by rw [List.length_append,hdl]; rfl)
    have HD:=Lib.hid (zc5 (j:=i) (v:=.pointer (some ⟨D,0,none⟩)) hx1 HS1.blk hgd)
    have c1:(w1.setCell ⟨g,i,none⟩ (.pointer (some ⟨D,0,none⟩))).cell? ⟨g,i,none⟩=some (.pointer (some ⟨D,0,none⟩)):=by
     have hb:=HM.out.blk
     rw [(zaf hb i)]
     have:=zcI (n:=l.length) (ds:=ds ++ [D]) (j:=i) (by rw [HL2.out]; omega)
     rw [this]
     have h9:(ds ++ [D])[i]'(by rw [HL2.out]; omega)=D:=by
      rw [List.getElem_append_right (by omega)]
      simp
     rw [h9]
    have HRB:=Lib.hid (show RbAt (w1.setCell ⟨g,i,none⟩ (.pointer (some ⟨D,0,none⟩))) w.heap.size ⟨#[]⟩ ⟨#[]⟩ from (Below.heap_setCell w1 ⟨g,i,none⟩ _ _ (by have:=HGG.out; show w.heap.size≠g; omega)).trans (HR.out.below hb1))
    clear hM hdl HS1 hb1 hx1 hD
    go_wp2_with fail
    refine (zaD D 0 (ns i) _ HD.out).mono ?_
    rintro e w3 ⟨rfl,rfl⟩
    have hsg:=HSG.out
    generalize (ns i).sign=sg at hsg ⊢
    go_wp2
    go_roundw
    case rel=>exact ⟨i+1,ds ++ [D],by omega,by go_num,HL2,HM,HRB⟩
    case measure=>simp [intOf]; omega
  ·obtain ⟨m,hm⟩:∃ m,l.length=m+1:=⟨l.length-1,by omega⟩
   obtain rfl:i=l.length:=by omega
   have hdl:=HL.out
   have hge:=HS.out.ge
   have hgl:=zat HS.out.blk
   have hmd:m<ds.length:=by omega
   obtain ⟨h1,h2,h3⟩:=HS.out.at_ m hmd
   have hcell:=HS.out.cell hmd
   have hap:=HS.out.apart
   generalize hdm:ds[m]=dm at h1 h2 h3 hcell
   have hba:=zaa (Below.refl wr.heap.size wr) (.cells #[.bool false,.slice none 0 0,.bool false,.slice none 0 0] 112)
   have hS1:=HS.out.below' hba
   have hZ:=(RatAt.new wr 112 (by decide)).slot
   have hR1:=HR.out.below hba
   have HX:=Lib.hid (h3.below hba)
   have c0:(wr.alloc (.cells #[.bool false,.slice none 0 0,.bool false,.slice none 0 0] 112)).cell? ⟨g,m,none⟩=some (.pointer (some ⟨dm,0,none⟩)):=bcell hba hcell
   have hw1:IntKind.i64.wrap ((l.length:Int)-1)=(m:Int):=by
    rw [show ((l.length:Int)-1)=(m:Int) by omega]
    rw [IntKind.wrap_i64]; omega
   have hw2:IntKind.i64.wrap ((l.length:Int)-2)=(m:Int)-1:=by
    rw [show ((l.length:Int)-2)=(m:Int)-1 by omega]
    rw [IntKind.wrap_i64]; omega
   have HS1:=Lib.hid hS1
   have HR1:=Lib.hid hR1
   have HZ1:=Lib.hid hZ
   have HAP:=Lib.hid hap
   have HBN:=Lib.hid (bd_ns (HG.out.txt m (by omega) (by omega)).2.1)
   have HM:=Lib.hid hm
   have HDL:=Lib.hid hdl
   have HW1:=Lib.hid hw1
   have hml:m<l.length:=by omega
   have hm1:(0:Int)≤(m:Int):=by omega
   have hgz:g≠wr.heap.size:=by omega
   have hwz:w.heap.size≠wr.heap.size:=by omega
   have hwz':w.heap.size≤wr.heap.size:=by omega
   clear hba hS1 hZ hR1 h3 hap hdm hm hdl hmd hi hin
   go_wp2_with fail
   refine (zaL wr.heap.size dm 0 (ns m) _ HZ1.out HX.out HBN.out (by decide)).mono ?_
   rintro e w1 ⟨rfl,hz1,hu1⟩
   generalize hZe:wr.heap.size=Z at *
   have HS2:=Lib.hid (HS1.out.upd' hu1 hwz' hgz HAP.out)
   have HR2:=Lib.hid (show RbAt w1 w.heap.size ⟨#[]⟩ ⟨#[]⟩ from (hu1.other _ (zat HR1.out) hwz).trans HR1.out)
   have HZ2:=Lib.hid (show RatAt w1 Z (bck (suf l.length ns m)) by
    rw [suf_last (by have:=HM.out; omega)]
    exact hz1)
   clear hz1 hu1 HS1 HR1 HZ1 HX HS HR hZe hcell c0
   go_wp2
   go_loopw [8] (fun vi wr'=>∃ (k:Nat),k≤m∧vi = .int .i64 ((k:Int)-1)∧Hid (BSt w wr' g l.length ns ds)∧Hid (RbAt wr' w.heap.size ⟨#[]⟩ ⟨#[]⟩)∧Hid (RatAt wr' Z (bck (suf l.length ns k)))) (fun vi _=>(intOf vi+1).toNat)
   case atStart=>exact ⟨m,Nat.le_refl _,by go_num,HS2,HR2,HZ2⟩
   case round =>
    obtain ⟨k,hk,rfl,HS,HR,HZ⟩:=hrel
    by_cases hk0:k=0
    ·have hv:((k:Int)-1) = -1:=by omega
     rw [hv]
     have HK:=Lib.hid hk0
     have hne1:decide ((0:Int) ≤ -1)=false:=rfl
     have HBB:=Lib.hid (Bgd.bd HG.out m 0 (by have:=HM.out; omega))
     have HZ3:=Lib.hid (show RatAt wr Z (bck (suf l.length ns 0)) by have:=HZ.out; rw [HK.out] at this; exact this)
     clear hv hk0 HZ
     go_wp2_with fail
     refine (zck Z (bck (suf l.length ns 0)) _ HZ3.out HBB.out (by unfold big; omega)).mono ?_
     rintro e w2 ⟨rfl,hb2⟩
     have HTT:Hid (toldR (bck ((List.range l.length).map ns))=toldR (bck (suf l.length ns 0))):=Lib.hid rfl
     generalize toldR (bck (suf l.length ns 0))=tt at HTT ⊢
     have hbk5:w2.heap[w.heap.size]? = some (Obj.cells #[.string ⟨#[]⟩,.string ⟨#[]⟩] 23 (0,0)):=(hb2.block _ (zat HR.out)).trans HR.out
     have hB5:=bthen HS.out.below hb2
     have cB0:=(zaf hbk5 0).trans (show _=some (Value.string ⟨#[]⟩) from rfl)
     have cB1:=(zaf hbk5 1).trans (show _=some (Value.string ⟨#[]⟩) from rfl)
     have fB0:=zae hbk5 0
     have fB1:=zae hbk5 1
     have hs1:=zau hbk5 0 (.string tt.1)
     have hs2:=zau hs1 1 (.string tt.2.1)
     have HS5:=Lib.hid (hs2.trans (show _=some (Obj.cells #[.string tt.1,.string tt.2.1] 23 (0,0)) from rfl))
     have HBF:=Lib.hid (zag (zag (g:=w.heap.size) (j:=0) (v:=.string tt.1) hB5 (Nat.le_refl _)) (j:=1) (v:=.string tt.2.1) (g:=w.heap.size) (Nat.le_refl _))
     clear hs1 hs2 hbk5 hB5 hb2
     go_wp2
     refine bodyPost_ret (zaK rfl _ _ w.heap.size 23 #[.string tt.1,.string tt.2.1] (0,0) _ rfl HS5.out Tryz.underlying23 rfl (by kernel_rfl)) rfl ?_
     exact ⟨by rw [HTT.out]; rfl,HBF.out⟩
    ·obtain ⟨q,rfl⟩:∃ q,k=q+1:=⟨k-1,by omega⟩
     have hv:(((q+1:Nat):Int)-1)=(q:Int):=by omega
     rw [hv]
     have hq0:(0:Int)≤(q:Int):=by omega
     have hq1:decide ((0:Int)≤(q:Int))=true:=decide_eq_true hq0
     have hql:q<l.length:=by omega
     have hml2:=HM.out
     have HNE:=Lib.hid (HG.out.ne (k:=q+1) (by omega) (by omega))
     have HBB:=Lib.hid (Bgd.bd HG.out (m-(q+1)) (q+1) (by omega))
     have HBQ:=Lib.hid (bd_ns (HG.out.txt q hql hql).2.1)
     have HKQ:=Lib.hid hk
     clear hv hk0
     go_wp2_with fail
     refine (inv_calls Z Z _ _ HZ.out.slot HZ.out HNE.out HBB.out (by unfold big; omega)).mono ?_
     rintro e w2 ⟨rfl,hz2,hu2⟩
     have HS3:=Lib.hid (HS.out.upd' hu2 hwz' hgz HAP.out)
     have HR3:=Lib.hid (show RbAt w2 w.heap.size ⟨#[]⟩ ⟨#[]⟩ from (hu2.other _ (zat HR.out) hwz).trans HR.out)
     have hdl:=HDL.out
     have h3:=(HS3.out.at_ q (by omega)).2.2
     have hcell:=HS3.out.cell (j:=q) (by omega)
     have hgl2:=zat HS3.out.blk
     have hrl2:=zat HR3.out
     have hzl2:=hz2.lt
     generalize ds[q]'(by omega)=dq at h3 hcell
     have hba:=zaa (Below.refl w2.heap.size w2) (.cells #[.bool false,.slice none 0 0,.bool false,.slice none 0 0] 112)
     have HS4:=Lib.hid (HS3.out.below' hba)
     have HR4:=Lib.hid (HR3.out.below hba)
     have HZ4:=Lib.hid (hz2.below hba)
     have HX4:=Lib.hid (h3.below hba)
     have HN4:=Lib.hid (RatAt.new w2 112 (by decide)).slot
     have HAP4:=Lib.hid HS3.out.apart
     have c0:(w2.alloc (.cells #[.bool false,.slice none 0 0,.bool false,.slice none 0 0] 112)).cell? ⟨g,q,none⟩=some (.pointer (some ⟨dq,0,none⟩)):=bcell hba hcell
     have hge4:w.heap.size≤w2.heap.size:=HS3.out.below.size
     clear hz2 hu2 h3 hcell hba HS3 HR3 HS HR HZ hdl hml2
     go_wp2_with fail
     refine (zaL w2.heap.size dq 0 (ns q) _ HN4.out HX4.out HBQ.out (by decide)).mono ?_
     rintro e w3 ⟨rfl,hn3,hu3⟩
     generalize hYe:w2.heap.size=Y at *
     have HS5:=Lib.hid (HS4.out.upd' hu3 hge4 (by omega) HAP4.out)
     have HR5:=Lib.hid (show RbAt w3 w.heap.size ⟨#[]⟩ ⟨#[]⟩ from (hu3.other _ (zat HR4.out) (by omega)).trans HR4.out)
     have HZ5:=Lib.hid (HZ4.out.upd hu3 (by omega))
     have HN5:=Lib.hid hn3
     clear hn3 hu3 HS4 HR4 HZ4 HX4 HN4 HAP4 hYe c0
     go_wp2_with fail
     refine (radd_calls Z Z Y _ _ _ HZ5.out.slot HZ5.out HN5.out (HBB.out.inv HNE.out) (Bdr.int HBQ.out (by decide)) (by unfold big; omega)).mono ?_
     rintro e w4 ⟨rfl,hz6,hu6⟩
     have HS6:=Lib.hid (HS5.out.upd' hu6 hwz' hgz HAP.out)
     have HR6:=Lib.hid (show RbAt w4 w.heap.size ⟨#[]⟩ ⟨#[]⟩ from (hu6.other _ (zat HR5.out) hwz).trans HR5.out)
     have HZ6:=Lib.hid (show RatAt w4 Z (bck (suf l.length ns q)) by
      rw [bck_suf (by have:=HM.out; have:=HKQ.out; omega),Rat.add_comm]
      exact hz6)
     clear hz6 hu6 HS5 HR5 HZ5 HN5 HNE
     go_wp2
     go_roundw
     case rel=>exact ⟨q,by have:=HKQ.out; omega,by go_num,HS6,HR6,HZ6⟩
     case measure=>first|(simp [intOf]; done)|(simp [intOf]; omega)
def Rt (t:ByteArray) (i:Nat) (x:Int):Prop:=t=wtext x∧x.natAbs<10^600∧(0<i→1≤x)
theorem back_no (A:Option Addr) (c:Nat) (l:List ByteArray) (ns:Nat→Int) (m:Nat) (w:World) (hr:Kd.C Kd.string w A l.length l) (hml:m<l.length) (hln:l.length≤100000000) (hg:Bgd l ns m) (hbad:¬ ∃ x,Rt l[m] m x) :
  Calls Tryz.prog 47 #[.slice A l.length c] w fun e w'=>e = .returned (.tuple #[.agg #[.string ⟨#[]⟩,.string ⟨#[]⟩],.int .i64 3])∧Below w.heap.size w w':=by
 have hn:0<l.length:=by omega
 have hmk:=zdj (P:=Tryz.prog) 129 101 (.pointer none) 8 Tryz.underlying129 infoPI rfl (by decide) l.length (by omega)
 have hu112:=Tryz.underlying112
 have HC:=Lib.hid hr
 have HG:=Lib.hid hg
 have HBD:=Lib.hid hbad
 clear hbad
 have fr:=RbAt.new w ⟨#[]⟩ ⟨#[]⟩
 have hba:=zaa (Below.refl w.heap.size w) (.cells #[.string ⟨#[]⟩,.string ⟨#[]⟩] 23)
 have HS0:=Lib.hid (BSt.start w (w.alloc (.cells #[.string ⟨#[]⟩,.string ⟨#[]⟩] 23)) hba l.length ns)
 have HR0:=Lib.hid (fr.alloc (.cells (madeCells #[Value.pointer none] l.length) 101))
 have hgz:(w.alloc (.cells #[.string ⟨#[]⟩,.string ⟨#[]⟩] 23)).heap.size=w.heap.size+1:=World.size_alloc _ _
 rw [hgz] at HS0
 have hz0:((l.length:Int) == 0)=false:=beq_eq_false_iff_ne.2 (by omega)
 clear hr hg fr hba hgz
 go_enter Tryz.func47,Tryz.ntmps47
 go_wp2
 generalize (w.alloc (.cells #[.string ⟨#[]⟩,.string ⟨#[]⟩] 23)).alloc (.cells (madeCells #[Value.pointer none] l.length) 101)=W0 at *
 generalize hg:w.heap.size+1=g at *
 have HGG:=Lib.hid hg
 clear hg hmk
 go_loopw [18] (fun vi wr=>∃ (i:Nat) (ds:List Nat),i≤m∧vi = .int .i64 i∧Hid (ds.length=i)∧Hid (BSt w wr g l.length ns ds)∧Hid (RbAt wr w.heap.size ⟨#[]⟩ ⟨#[]⟩)) (fun vi _=>l.length-(intOf vi).toNat)
 case atStart=>exact ⟨0,[],Nat.zero_le _,rfl,Lib.hid rfl,HS0,HR0⟩
 case round =>
  obtain ⟨i,ds,hi,rfl,HL,HS,HR⟩:=hrel
  by_cases him:i<m
  ·have hin:i<l.length:=by omega
   obtain ⟨ad,rfl,hcell⟩:=C_str (Kd.C_below HC.out HS.out.below) hin
   obtain ⟨g1,g2,g3⟩:=HG.out.txt i hin him
   rw [g1] at hcell
   have hge:=HS.out.ge
   have hgl:=zat HS.out.blk
   have HG2:=Lib.hid g2
   have HG3:=Lib.hid g3
   clear g1 g2 g3
   by_cases hi0:i=0
   ·have hib:((i:Int) == 0)=true:=beq_iff_eq.2 (by omega)
    have hip:decide ((0:Int)<(i:Int))=false:=decide_eq_false (by omega)
    have hip2:((0:Int)<(i:Int))=False:=eq_false (by omega)
    have hip3:(0<i)=False:=eq_false (by omega)
    have hip4:((i:Int)≤0)=True:=eq_true (by omega)
    clear hi0
    go_wp2_with fail
    refine (zci (ns i) _ HG2.out).mono ?_
    rintro e w1 ⟨D,rfl,hD,hx1,hb1⟩
    have HS1:=HS.out.below' hb1
    have hgd:g≠D:=by omega
    have hwd:w.heap.size≤D:=by omega
    have hdl:=HL.out
    have c0:w1.cell? ⟨g,i,none⟩=some (.pointer none):=by
     have h:=zb7 (n:=l.length) (ds:=ds) (by omega)
     rw [hdl] at h
     exact (zaf HS1.blk i).trans h
    have f0:=zae HS1.blk i
    have hM:=HS1.more (by omega) D hwd hgd (by rw [hdl]; exact hx1)
    rw [hdl] at hM
    have HM:=Lib.hid hM
    have HL2:=Lib.hid (show (ds ++ [D]).length=i+1 by rw [List.length_append,hdl]; rfl)
    have HD:=Lib.hid (zc5 (j:=i) (v:=.pointer (some ⟨D,0,none⟩)) hx1 HS1.blk hgd)
    have c1:(w1.setCell ⟨g,i,none⟩ (.pointer (some ⟨D,0,none⟩))).cell? ⟨g,i,none⟩=some (.pointer (some ⟨D,0,none⟩)):=by
     have hb:=HM.out.blk
     rw [(zaf hb i)]
     have:=zcI (n:=l.length) (ds:=ds ++ [D]) (j:=i) (by rw [HL2.out]; omega)
     rw [this]
     have h9:(ds ++ [D])[i]'(by rw [HL2.out]; omega)=D:=by
      rw [List.getElem_append_right (by omega)]
      simp
     rw [h9]
    have HRB:=Lib.hid (show RbAt (w1.setCell ⟨g,i,none⟩ (.pointer (some ⟨D,0,none⟩))) w.heap.size ⟨#[]⟩ ⟨#[]⟩ from (Below.heap_setCell w1 ⟨g,i,none⟩ _ _ (by have:=HGG.out; show w.heap.size≠g; omega)).trans (HR.out.below hb1))
    clear hM hdl HS1 hb1 hx1 hD
    go_wp2
    go_roundw
    case rel=>exact ⟨i+1,ds ++ [D],by omega,by go_num,HL2,HM,HRB⟩
    case measure=>simp [intOf]; omega
   ·have hib:((i:Int) == 0)=false:=beq_eq_false_iff_ne.2 (by omega)
    have hip:decide ((0:Int)<(i:Int))=true:=decide_eq_true (by omega)
    have h1i:=HG3.out (by omega)
    have hxe:ns i=(((ns i).natAbs:Nat):Int):=by omega
    have hwt:wtext (ns i)=T (ns i).natAbs:=zaF (by omega)
    rw [hwt] at hcell
    have HN:=Lib.hid (fun W=>za9 (ns i).natAbs W HG2.out)
    have HXE:=Lib.hid hxe
    have HSG:=Lib.hid (show (ns i).sign≠0 from fun e=>by have:=Int.sign_eq_zero_iff_zero.1 e; omega)
    clear h1i hxe hwt
    go_wp2_with fail
    refine (HN.out _).mono ?_
    rintro e w1 ⟨D,rfl,hD,hx1,hb1⟩
    rw [←HXE.out] at hx1
    have HS1:=HS.out.below' hb1
    have hgd:g≠D:=by omega
    have hwd:w.heap.size≤D:=by omega
    have hdl:=HL.out
    have c0:w1.cell? ⟨g,i,none⟩=some (.pointer none):=by
     have h:=zb7 (n:=l.length) (ds:=ds) (by omega)
     rw [hdl] at h
     exact (zaf HS1.blk i).trans h
    have f0:=zae HS1.blk i
    have hM:=HS1.more (by omega) D hwd hgd (by rw [hdl]; exact hx1)
    rw [hdl] at hM
    have HM:=Lib.hid hM
    have HL2:=Lib.hid (show (ds ++ [D]).length=i+1 by rw [List.length_append,hdl]; rfl)
    have HD:=Lib.hid (zc5 (j:=i) (v:=.pointer (some ⟨D,0,none⟩)) hx1 HS1.blk hgd)
    have c1:(w1.setCell ⟨g,i,none⟩ (.pointer (some ⟨D,0,none⟩))).cell? ⟨g,i,none⟩=some (.pointer (some ⟨D,0,none⟩)):=by
     have hb:=HM.out.blk
     rw [(zaf hb i)]
     have:=zcI (n:=l.length) (ds:=ds ++ [D]) (j:=i) (by rw [HL2.out]; omega)
     rw [this]
     have h9:(ds ++ [D])[i]'(by rw [HL2.out]; omega)=D:=by
      rw [List.getElem_append_right (by omega)]
      simp
     rw [h9]
    have HRB:=Lib.hid (show RbAt (w1.setCell ⟨g,i,none⟩ (.pointer (some ⟨D,0,none⟩))) w.heap.size ⟨#[]⟩ ⟨#[]⟩ from (Below.heap_setCell w1 ⟨g,i,none⟩ _ _ (by have:=HGG.out; show w.heap.size≠g; omega)).trans (HR.out.below hb1))
    clear hM hdl HS1 hb1 hx1 hD
    go_wp2_with fail
    refine (zaD D 0 (ns i) _ HD.out).mono ?_
    rintro e w3 ⟨rfl,rfl⟩
    have hsg:=HSG.out
    generalize (ns i).sign=sg at hsg ⊢
    go_wp2
    go_roundw
    case rel=>exact ⟨i+1,ds ++ [D],by omega,by go_num,HL2,HM,HRB⟩
    case measure=>simp [intOf]; omega
  ·obtain rfl:i=m:=by omega
   obtain ⟨ad,rfl,hcell⟩:=C_str (Kd.C_below HC.out HS.out.below) hml
   have hge:=HS.out.ge
   have hgl:=zat HS.out.blk
   by_cases hi0:i=0
   ·have hib:((i:Int) == 0)=true:=beq_iff_eq.2 (by omega)
    have hip:decide ((0:Int)<(i:Int))=false:=decide_eq_false (by omega)
    have hip2:((0:Int)<(i:Int))=False:=eq_false (by omega)
    have hip3:(0<i)=False:=eq_false (by omega)
    have hip4:((i:Int)≤0)=True:=eq_true (by omega)
    have HNO:=Lib.hid (show ¬ ∃ x,WR l[i] x from fun ⟨x,h1,h2⟩=>HBD.out ⟨x,h1,h2,fun h=>absurd h (by omega)⟩)
    clear hi0
    go_wp2_with fail
    refine (whole_no l[i] _ HNO.out).mono ?_
    rintro e w1 ⟨rfl,hb1⟩
    have HS1:=Lib.hid (HS.out.below' hb1)
    have HR1:=Lib.hid (HR.out.below hb1)
    have hdl:=HL.out
    have c0:w1.cell? ⟨g,i,none⟩=some (.pointer none):=by
     have h:=zb7 (n:=l.length) (ds:=ds) (by omega)
     rw [hdl] at h
     exact (zaf HS1.out.blk i).trans h
    have f0:=zae HS1.out.blk i
    have c1:(w1.setCell ⟨g,i,none⟩ (.pointer none)).cell? ⟨g,i,none⟩=some (.pointer none):=by
     have h:=zau HS1.out.blk i (.pointer none)
     rw [zaf h i]
     rw [Array.getElem?_setIfInBounds_self_of_lt]
     rw [List.size_toArray,zbI HS1.out.le]; omega
    have hbk5:(w1.setCell ⟨g,i,none⟩ (.pointer none)).heap[w.heap.size]? = some (Obj.cells #[.string ⟨#[]⟩,.string ⟨#[]⟩] 23 (0,0)):=(Below.heap_setCell w1 ⟨g,i,none⟩ _ _ (by have:=HGG.out; show w.heap.size≠g; omega)).trans HR1.out
    have hB5:=zag HS1.out.below (j:=i) (v:=(.pointer none)) (g:=g) hge
    have cB0:=(zaf hbk5 0).trans (show _=some (Value.string ⟨#[]⟩) from rfl)
    have cB1:=(zaf hbk5 1).trans (show _=some (Value.string ⟨#[]⟩) from rfl)
    have fB0:=zae hbk5 0
    have fB1:=zae hbk5 1
    have hs1:=zau hbk5 0 (.string ⟨#[]⟩)
    have hs2:=zau hs1 1 (.string ⟨#[]⟩)
    have HS5:=Lib.hid (hs2.trans (show _=some (Obj.cells #[.string ⟨#[]⟩,.string ⟨#[]⟩] 23 (0,0)) from rfl))
    have HBF:=Lib.hid (zag (zag (g:=w.heap.size) (j:=0) (v:=.string ⟨#[]⟩) hB5 (Nat.le_refl _)) (j:=1) (v:=.string ⟨#[]⟩) (g:=w.heap.size) (Nat.le_refl _))
    clear hs1 hs2 hbk5 hB5
    clear hb1 hdl
    go_wp2
    refine bodyPost_ret (zaK rfl _ _ w.heap.size 23 #[.string ⟨#[]⟩,.string ⟨#[]⟩] (0,0) _ rfl HS5.out Tryz.underlying23 rfl (by kernel_rfl)) rfl ?_
    exact ⟨rfl,HBF.out⟩
   ·have hib:((i:Int) == 0)=false:=beq_eq_false_iff_ne.2 (by omega)
    have hip:decide ((0:Int)<(i:Int))=true:=decide_eq_true (by omega)
    rcases hrb:rightB l[i] with _|_
    ·have HNO:=Lib.hid hrb
     clear hrb
     go_wp2_with fail
     refine (zcm l[i] _ HNO.out).mono ?_
     rintro e w1 ⟨rfl,hb1⟩
     have HS1:=Lib.hid (HS.out.below' hb1)
     have HR1:=Lib.hid (HR.out.below hb1)
     have hdl:=HL.out
     have c0:w1.cell? ⟨g,i,none⟩=some (.pointer none):=by
      have h:=zb7 (n:=l.length) (ds:=ds) (by omega)
      rw [hdl] at h
      exact (zaf HS1.out.blk i).trans h
     have f0:=zae HS1.out.blk i
     have c1:(w1.setCell ⟨g,i,none⟩ (.pointer none)).cell? ⟨g,i,none⟩=some (.pointer none):=by
      have h:=zau HS1.out.blk i (.pointer none)
      rw [zaf h i]
      rw [Array.getElem?_setIfInBounds_self_of_lt]
      rw [List.size_toArray,zbI HS1.out.le]; omega
     have hbk5:(w1.setCell ⟨g,i,none⟩ (.pointer none)).heap[w.heap.size]? = some (Obj.cells #[.string ⟨#[]⟩,.string ⟨#[]⟩] 23 (0,0)):=(Below.heap_setCell w1 ⟨g,i,none⟩ _ _ (by have:=HGG.out; show w.heap.size≠g; omega)).trans HR1.out
     have hB5:=zag HS1.out.below (j:=i) (v:=(.pointer none)) (g:=g) hge
     have cB0:=(zaf hbk5 0).trans (show _=some (Value.string ⟨#[]⟩) from rfl)
     have cB1:=(zaf hbk5 1).trans (show _=some (Value.string ⟨#[]⟩) from rfl)
     have fB0:=zae hbk5 0
     have fB1:=zae hbk5 1
     have hs1:=zau hbk5 0 (.string ⟨#[]⟩)
     have hs2:=zau hs1 1 (.string ⟨#[]⟩)
     have HS5:=Lib.hid (hs2.trans (show _=some (Obj.cells #[.string ⟨#[]⟩,.string ⟨#[]⟩] 23 (0,0)) from rfl))
     have HBF:=Lib.hid (zag (zag (g:=w.heap.size) (j:=0) (v:=.string ⟨#[]⟩) hB5 (Nat.le_refl _)) (j:=1) (v:=.string ⟨#[]⟩) (g:=w.heap.size) (Nat.le_refl _))
     clear hs1 hs2 hbk5 hB5
     clear hb1 hdl
     go_wp2
     refine bodyPost_ret (zaK rfl _ _ w.heap.size 23 #[.string ⟨#[]⟩,.string ⟨#[]⟩] (0,0) _ rfl HS5.out Tryz.underlying23 rfl (by kernel_rfl)) rfl ?_
     exact ⟨rfl,HBF.out⟩
    ·obtain ⟨n,h1,h2⟩:=right_iff.1 hrb
     have h0:n=0:=by
      apply Decidable.byContradiction
      intro h
      exact HBD.out ⟨(n:Int),by rw [zaF (by omega),Int.natAbs_natCast]; exact h1,by rw [Int.natAbs_natCast]; exact h2,fun _=>by omega⟩
     subst h0
     rw [h1] at hcell
     clear hrb h1 h2
     go_wp2_with fail
     refine (za9 0 _ (by decide)).mono ?_
     rintro e w1 ⟨D,rfl,hD,hx1,hb1⟩
     have HS1:=Lib.hid (HS.out.below' hb1)
     have HR1:=Lib.hid (HR.out.below hb1)
     have hdl:=HL.out
     have c0:w1.cell? ⟨g,i,none⟩=some (.pointer none):=by
      have h:=zb7 (n:=l.length) (ds:=ds) (by omega)
      rw [hdl] at h
      exact (zaf HS1.out.blk i).trans h
     have f0:=zae HS1.out.blk i
     have c1:(w1.setCell ⟨g,i,none⟩ (.pointer (some ⟨D,0,none⟩))).cell? ⟨g,i,none⟩=some (.pointer (some ⟨D,0,none⟩)):=by
      have h:=zau HS1.out.blk i (.pointer (some ⟨D,0,none⟩))
      rw [zaf h i]
      rw [Array.getElem?_setIfInBounds_self_of_lt]
      rw [List.size_toArray,zbI HS1.out.le]; omega
     have hgd:g≠D:=by omega
     have HD:=Lib.hid (zc5 (j:=i) (v:=.pointer (some ⟨D,0,none⟩)) hx1 HS1.out.blk hgd)
     have hbk5:(w1.setCell ⟨g,i,none⟩ (.pointer (some ⟨D,0,none⟩))).heap[w.heap.size]? = some (Obj.cells #[.string ⟨#[]⟩,.string ⟨#[]⟩] 23 (0,0)):=(Below.heap_setCell w1 ⟨g,i,none⟩ _ _ (by have:=HGG.out; show w.heap.size≠g; omega)).trans HR1.out
     have hB5:=zag HS1.out.below (j:=i) (v:=(.pointer (some ⟨D,0,none⟩))) (g:=g) hge
     have cB0:=(zaf hbk5 0).trans (show _=some (Value.string ⟨#[]⟩) from rfl)
     have cB1:=(zaf hbk5 1).trans (show _=some (Value.string ⟨#[]⟩) from rfl)
     have fB0:=zae hbk5 0
     have fB1:=zae hbk5 1
     have hs1:=zau hbk5 0 (.string ⟨#[]⟩)
     have hs2:=zau hs1 1 (.string ⟨#[]⟩)
     have HS5:=Lib.hid (hs2.trans (show _=some (Obj.cells #[.string ⟨#[]⟩,.string ⟨#[]⟩] 23 (0,0)) from rfl))
     have HBF:=Lib.hid (zag (zag (g:=w.heap.size) (j:=0) (v:=.string ⟨#[]⟩) hB5 (Nat.le_refl _)) (j:=1) (v:=.string ⟨#[]⟩) (g:=w.heap.size) (Nat.le_refl _))
     clear hs1 hs2 hbk5 hB5
     clear hb1 hdl hx1 hD
     go_wp2_with fail
     refine (zaD D 0 _ _ HD.out).mono ?_
     rintro e w3 ⟨rfl,rfl⟩
     have hz9:Int.sign ((0:Nat):Int)=0:=rfl
     rw [hz9]
     go_wp2
     refine bodyPost_ret (zaK rfl _ _ w.heap.size 23 #[.string ⟨#[]⟩,.string ⟨#[]⟩] (0,0) _ rfl HS5.out Tryz.underlying23 rfl (by kernel_rfl)) rfl ?_
     exact ⟨rfl,HBF.out⟩
theorem back_nil (A:Option Addr) (c:Nat) (w:World) :
  Calls Tryz.prog 47 #[.slice A 0 c] w fun e w'=>e = .returned (.tuple #[.agg #[.string ⟨#[]⟩,.string ⟨#[]⟩],.int .i64 3])∧Below w.heap.size w w':=by
 have fr:=RbAt.new w ⟨#[]⟩ ⟨#[]⟩
 have hba:=zaa (Below.refl w.heap.size w) (.cells #[.string ⟨#[]⟩,.string ⟨#[]⟩] 23)
 have hbk5:(w.alloc (.cells #[.string ⟨#[]⟩,.string ⟨#[]⟩] 23)).heap[w.heap.size]? = some (Obj.cells #[.string ⟨#[]⟩,.string ⟨#[]⟩] 23 (0,0)):=fr
 have cB0:=(zaf hbk5 0).trans (show _=some (Value.string ⟨#[]⟩) from rfl)
 have cB1:=(zaf hbk5 1).trans (show _=some (Value.string ⟨#[]⟩) from rfl)
 have fB0:=zae hbk5 0
 have fB1:=zae hbk5 1
 have HS5:=Lib.hid hbk5
 have HBF:=Lib.hid hba
 clear hbk5 hba fr
 go_enter Tryz.func47,Tryz.ntmps47
 go_wp2
 refine bodyPost_ret (zaK rfl _ _ w.heap.size 23 #[.string ⟨#[]⟩,.string ⟨#[]⟩] (0,0) _ rfl HS5.out Tryz.underlying23 rfl (by kernel_rfl)) rfl ?_
 exact ⟨rfl,HBF.out⟩
theorem gd_or (l:List ByteArray):∀ k,k≤l.length→(∃ ns,Bgd l ns k)∨∃ (m:Nat) (h:m<l.length) (ns:Nat→Int),Bgd l ns m∧¬ ∃ x,Rt l[m] m x:=by
 intro k
 induction k with
 | zero=>intro _; exact Or.inl ⟨fun _=>0,⟨fun i h k=>by omega⟩⟩
 | succ k ih =>
  intro hk
  rcases ih (by omega) with ⟨ns,h⟩|h
  ·by_cases hx:∃ x,Rt (l[k]'(by omega)) k x
   ·obtain ⟨x,h1,h2,h3⟩:=hx
    refine Or.inl ⟨fun i=>if i=k then x else ns i,⟨fun i hi hik => ?_⟩⟩
    by_cases e:i=k
    ·subst e
     rw [if_pos rfl]
     exact ⟨h1,h2,h3⟩
    ·rw [if_neg e]
     exact h.txt i hi (by omega)
   ·exact Or.inr ⟨k,by omega,ns,h,hx⟩
  ·exact Or.inr h
theorem wtext_one {x y:Int} (h:wtext x=wtext y) (hx:x.natAbs<10^600) (hy:y.natAbs<10^600):x=y:=wtext_inj h
theorem Bgd.one {l:List ByteArray} {ns ms:Nat→Int} (h:Bgd l ns l.length) (k:Bgd l ms l.length):(List.range l.length).map ns=(List.range l.length).map ms:=by
 apply List.map_congr_left
 intro i hi
 have hi:=List.mem_range.1 hi
 obtain ⟨h1,h2,_⟩:=h.txt i hi hi
 obtain ⟨k1,k2,_⟩:=k.txt i hi hi
 exact wtext_one (h1.symm.trans k1) h2 k2
noncomputable def rat_Back.f (l1:List ByteArray):Option (ByteArray×ByteArray×Int):=by
 classical exact if l1.length≤100000000 then (if h:∃ ns,0<l1.length∧Bgd l1 ns l1.length then some (toldR (bck ((List.range l1.length).map h.choose))) else some (⟨#[]⟩,⟨#[]⟩,3)) else none
theorem zcH {l:List ByteArray} {ns:Nat→Int} (hl:l.length≤100000000) (hn:0<l.length) (h:Bgd l ns l.length):rat_Back.f l=some (toldR (bck ((List.range l.length).map ns))):=by
 have hh:∃ ns,0<l.length∧Bgd l ns l.length:=⟨ns,hn,h⟩
 unfold rat_Back.f
 rw [if_pos hl,dif_pos hh,h.one hh.choose_spec.2]
theorem zc3 {l:List ByteArray} (hl:l.length≤100000000) (h:¬ ∃ ns,0<l.length∧Bgd l ns l.length):rat_Back.f l=some (⟨#[]⟩,⟨#[]⟩,3):=by
 unfold rat_Back.f
 rw [if_pos hl,dif_neg h]
theorem rat_Back.calls (A1:Option Addr) (c1:Nat) (l1:List ByteArray) (r1 r2:ByteArray) (r3:Int) (w:World) (hr0:Kd.C Kd.string w A1 l1.length l1) (hc0:l1.length≤c1) (h:rat_Back.f l1=some (r1,r2,r3)) :
  Calls Tryz.prog 47 #[.slice A1 l1.length c1] w fun e w'=>e = .returned (.tuple #[.agg #[.string r1,.string r2],.int .i64 r3])∧Below w.heap.size w w':=by
 by_cases hl:l1.length≤100000000
 ·by_cases hg:∃ ns,0<l1.length∧Bgd l1 ns l1.length
  ·obtain ⟨ns,hn,hg⟩:=hg
   rw [zcH hl hn hg] at h
   have h:=Option.some.inj h
   have hb:=back_yes A1 c1 l1 ns w hr0 hn hl hg
   rw [h] at hb
   exact hb
  ·rw [zc3 hl hg] at h
   obtain ⟨rfl,h9⟩:=Prod.mk.inj (Option.some.inj h)
   obtain ⟨rfl,rfl⟩:=Prod.mk.inj h9
   by_cases hn:0<l1.length
   ·rcases gd_or l1 l1.length (Nat.le_refl _) with ⟨ns,hk⟩|⟨m,hm,ns,hk,hb⟩
    ·exact absurd ⟨ns,hn,hk⟩ hg
    ·exact back_no A1 c1 l1 ns m w hr0 hm hl hk hb
   ·have e:l1.length=0:=by omega
    rw [e]
    exact back_nil A1 c1 w
 ·unfold rat_Back.f at h
  rw [if_neg hl] at h
  exact absurd h (by simp)
end Go.Proofs.ZQ
end
