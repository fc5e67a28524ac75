/- Texts under the proof, joined by a program (prune.py): QPlus, Q196, Q212, Q240, QFr4, QRefOps, QPairs, QRefN, SSimple, QBetween, QRatC, QRatD. -/
import Derived.Test.YtglaeambknhjlaaGreatDoorCRatSimple11
import Derived.Test.YtglaeambknhjlaaGreatDoorCRatSimple13
import Derived.Test.YtglaeambknhjlaaGreatDoorCRatSimple15
import Derived.Test.YtglaeambknhjlaaGreatDoorCRatSimple06
import Derived.Test.YtglaeambknhjlaaGreatDoorCRatSimple12
set_option linter.unusedVariables false
set_option linter.unusedSimpArgs false
set_option exponentiation.threshold 20001
set_option maxHeartbeats 8000000
set_option maxRecDepth 100000
section
namespace Go.Proofs.ZQ
open Go.RowKit Go.Proofs.ZW.Wa Go.Proofs.ZP Go.Proofs.ZW.Wb Go.Proofs.ZW.Wc
def FrAt (w:World) (b:Nat) (s:Bool) (x y:ByteArray):Prop:=w.heap[b]? = some (.cells #[.bool s,.string x,.string y] 66 (0,0))
theorem FrAt.c0 {w:World} {b:Nat} {s:Bool} {x y:ByteArray} (h:FrAt w b s x y):w.cell? ⟨b,0,none⟩=some (.bool s):=(zaf h 0).trans rfl
theorem FrAt.c1 {w:World} {b:Nat} {s:Bool} {x y:ByteArray} (h:FrAt w b s x y):w.cell? ⟨b,1,none⟩=some (.string x):=(zaf h 1).trans rfl
theorem FrAt.c2 {w:World} {b:Nat} {s:Bool} {x y:ByteArray} (h:FrAt w b s x y):w.cell? ⟨b,2,none⟩=some (.string y):=(zaf h 2).trans rfl
theorem FrAt.below {w w':World} {b:Nat} {s:Bool} {x y:ByteArray} (h:FrAt w b s x y) (hb:Below w.heap.size w w'):FrAt w' b s x y:=(hb.block _ (zar h)).trans h
theorem FrAt.keep {w w':World} {b n:Nat} {s:Bool} {x y:ByteArray} (h:FrAt w b s x y) (hb:Below n w w') (hn:b<n):FrAt w' b s x y:=(hb.block _ hn).trans h
theorem FrAt.new (w:World) (s:Bool) (x y:ByteArray):FrAt (w.alloc (.cells #[.bool s,.string x,.string y] 66)) w.heap.size s x y:=zaz w _
theorem FrAt.alloc {w:World} {b:Nat} {s:Bool} {x y:ByteArray} (h:FrAt w b s x y) (o:Obj):FrAt (w.alloc o) b s x y:=h.below (zaa (Below.refl _ _) _)
theorem fr_put {w w2:World} {D:Nat} {s:Bool} {x y:ByteArray} (f:FrAt w2 D s x y) (hb:Below w.heap.size w w2) (hD:w.heap.size≤D) (t:Bool) (u v:ByteArray):FrAt (((w2.setCell ⟨D,0,none⟩ (.bool t)).setCell ⟨D,1,none⟩ (.string u)).setCell ⟨D,2,none⟩ (.string v)) D t u v∧Below w.heap.size w (((w2.setCell ⟨D,0,none⟩ (.bool t)).setCell ⟨D,1,none⟩ (.string u)).setCell ⟨D,2,none⟩ (.string v)):=
 ⟨(zat (zat (zat f 0 (.bool t)) 1 (.string u)) 2 (.string v)).trans rfl,zag (zag (zag hb hD) hD) hD⟩
theorem fr_three (w:World) (s t u:Bool) (a b c d e f:ByteArray):FrAt (((w.alloc (.cells #[.bool s,.string a,.string b] 66)).alloc (.cells #[.bool t,.string c,.string d] 66)).alloc (.cells #[.bool u,.string e,.string f] 66)) w.heap.size s a b ∧
  FrAt (((w.alloc (.cells #[.bool s,.string a,.string b] 66)).alloc (.cells #[.bool t,.string c,.string d] 66)).alloc (.cells #[.bool u,.string e,.string f] 66)) (w.heap.size+1) t c d ∧
  FrAt (((w.alloc (.cells #[.bool s,.string a,.string b] 66)).alloc (.cells #[.bool t,.string c,.string d] 66)).alloc (.cells #[.bool u,.string e,.string f] 66)) (w.heap.size+1+1) u e f ∧
  Below w.heap.size w (((w.alloc (.cells #[.bool s,.string a,.string b] 66)).alloc (.cells #[.bool t,.string c,.string d] 66)).alloc (.cells #[.bool u,.string e,.string f] 66)):=by
 refine ⟨((FrAt.new w s a b).alloc _).alloc _,?_,?_,zaa (zaa (zaa (Below.refl _ _) _) _) _⟩
 ·have h:=(FrAt.new (w.alloc (.cells #[.bool s,.string a,.string b] 66)) t c d).alloc (.cells #[.bool u,.string e,.string f] 66)
  rw [World.size_alloc] at h
  exact h
 ·have h:=FrAt.new ((w.alloc (.cells #[.bool s,.string a,.string b] 66)).alloc (.cells #[.bool t,.string c,.string d] 66)) u e f
  rw [World.size_alloc,World.size_alloc] at h
  exact h
theorem fr_two (w:World) (s t:Bool) (a b c d:ByteArray):FrAt ((w.alloc (.cells #[.bool s,.string a,.string b] 66)).alloc (.cells #[.bool t,.string c,.string d] 66)) w.heap.size s a b ∧
  FrAt ((w.alloc (.cells #[.bool s,.string a,.string b] 66)).alloc (.cells #[.bool t,.string c,.string d] 66)) (w.heap.size+1) t c d ∧
  Below w.heap.size w ((w.alloc (.cells #[.bool s,.string a,.string b] 66)).alloc (.cells #[.bool t,.string c,.string d] 66)):=
 ⟨(FrAt.new w s a b).alloc _,by
  have h:=FrAt.new (w.alloc (.cells #[.bool s,.string a,.string b] 66)) t c d
  rw [World.size_alloc] at h
  exact h,zaa (zaa (Below.refl _ _) _) _⟩
noncomputable def c2_Plus.f (a0_0:Bool) (a0_1:ByteArray) (a0_2:ByteArray) (a1_0:Bool) (a1_1:ByteArray) (a1_2:ByteArray):Option (Bool×ByteArray×ByteArray):=(c1_Times.f a0_1 a1_2).bind fun t601=>((c1_Times.f a1_1 a0_2).bind fun t602=>((c1_Times.f a0_2 a1_2).bind fun t603=>(if (a0_0 == a1_0)=true then ((c1_Plus.f t601 t602).bind fun t604=>((c2_Lowest.f a0_0 t604 t603).bind fun bt605=>(some (bt605.1,bt605.2.1,bt605.2.2)))) else ((c1_Compare.f t601 t602).bind fun t608=>(if t608≥0 then ((c1_Minus.f t601 t602).bind fun t609=>((c2_Lowest.f a0_0 t609 t603).bind fun bt610=>(some (bt610.1,bt610.2.1,bt610.2.2)))) else ((c1_Minus.f t602 t601).bind fun t613=>((c2_Lowest.f a1_0 t613 t603).bind fun bt614=>(some (bt614.1,bt614.2.1,bt614.2.2)))))))))
theorem c2_Plus.calls (a0_0:Bool) (a0_1:ByteArray) (a0_2:ByteArray) (a1_0:Bool) (a1_1:ByteArray) (a1_2:ByteArray) (r1:Bool) (r2:ByteArray) (r3:ByteArray) (w:World) (h:c2_Plus.f a0_0 a0_1 a0_2 a1_0 a1_1 a1_2=some (r1,r2,r3)) :
  Calls Tryz.prog 60 #[.agg #[.bool a0_0,.string a0_1,.string a0_2],.agg #[.bool a1_0,.string a1_1,.string a1_2]] w fun e w'=>e = .returned (.agg #[.bool r1,.string r2,.string r3])∧Below w.heap.size w w':=by
 unfold c2_Plus.f at h
 obtain ⟨x,hx,h2⟩:=Option.bind_eq_some_iff.1 h
 obtain ⟨y,hy,h3⟩:=Option.bind_eq_some_iff.1 h2
 obtain ⟨d,hd,h4⟩:=Option.bind_eq_some_iff.1 h3
 have HX:=Lib.hid (fun W=>c1_Times.calls a0_1 a1_2 x W hx)
 have HY:=Lib.hid (fun W=>c1_Times.calls a1_1 a0_2 y W hy)
 have HD:=Lib.hid (fun W=>c1_Times.calls a0_2 a1_2 d W hd)
 have H:=Lib.hid h4
 clear h h2 h3 h4 hx hy hd
 go_enter Tryz.func60,Tryz.ntmps60
 obtain ⟨fa,fb,fr,hba⟩:=fr_three w a0_0 a1_0 false a0_1 a0_2 a1_1 a1_2 ⟨#[]⟩ ⟨#[]⟩
 go_wp2_with fail
 generalize (((w.alloc (.cells #[.bool a0_0,.string a0_1,.string a0_2] 66)).alloc (.cells #[.bool a1_0,.string a1_1,.string a1_2] 66)).alloc (.cells #[.bool false,.string ⟨#[]⟩,.string ⟨#[]⟩] 66))=W0 at *
 generalize hBx:w.heap.size+1=X0 at *
 generalize hBe:X0+1=B0 at *
 have HBE:=Lib.hid (show w.heap.size≤B0 by omega)
 have HLT:=Lib.hid (show w.heap.size<B0∧X0<B0 by omega)
 have HK:=Lib.hid (show ∀ W':World,Below W0.heap.size W0 W'→W'.cell? ⟨w.heap.size,1,none⟩=some (.string a0_1)∧W'.cell? ⟨w.heap.size,2,none⟩=some (.string a0_2)∧W'.cell? ⟨X0,1,none⟩=some (.string a1_1)∧W'.cell? ⟨X0,2,none⟩=some (.string a1_2) from fun W' h=>⟨(fa.below h).c1,(fa.below h).c2,(fb.below h).c1,(fb.below h).c2⟩)
 clear hBe hBx
 have HLE:=Lib.hid (show B0≤W0.heap.size from Nat.le_of_lt (zar fr))
 have HFA:=Lib.hid fa
 have HFB:=Lib.hid fb
 have HFR:=Lib.hid fr
 have HBA:=Lib.hid hba
 clear fa fb fr hba
 go_region_held3 (fun w'=>w'.cell? ⟨w.heap.size,1,none⟩=some (.string a0_1)∧w'.cell? ⟨w.heap.size,2,none⟩=some (.string a0_2)∧w'.cell? ⟨X0,1,none⟩=some (.string a1_1)∧w'.cell? ⟨X0,2,none⟩=some (.string a1_2))
  (exact HK.out _ (by repeat (with_reducible first|exact Below.refl _ _|apply zap|apply zab|refine bthen ?_ hb3|refine bthen ?_ hb2|refine bthen ?_ hb1)))
  ((first
   | (go_simp; go_at_call 131; (with_reducible change Calls _ _ #[.string a0_1,.string a1_2] _ _); refine (HX.out _).mono ?_; rintro e w1 ⟨rfl,hb1⟩)
   | (go_simp; go_at_call 131; (with_reducible change Calls _ _ #[.string a1_1,.string a0_2] _ _); refine (HY.out _).mono ?_; rintro e w2 ⟨rfl,hb2⟩)
   | (go_simp; go_at_call 131; (with_reducible change Calls _ _ #[.string a0_2,.string a1_2] _ _); refine (HD.out _).mono ?_; rintro e w3 ⟨rfl,hb3⟩)))
 rename_i hHeld
 clear hHeld
 have HB3:=Lib.hid (show Below W0.heap.size W0 w3 from by repeat (with_reducible first|exact Below.refl _ _|apply zap|apply zab|refine bthen ?_ hb3|refine bthen ?_ hb2|refine bthen ?_ hb1))
 clear hb1 hb2 hb3 HX HY HD HK
 have q0:=(HFA.out.below HB3.out).c0
 have q1:=(HFB.out.below HB3.out).c0
 have HQ:=Lib.hid (show ∀ W':World,Below W0.heap.size W0 W'→W'.cell? ⟨w.heap.size,0,none⟩=some (.bool a0_0)∧W'.cell? ⟨X0,0,none⟩=some (.bool a1_0) from fun W' h=>⟨(HFA.out.below h).c0,(HFB.out.below h).c0⟩)
 have HQS:=Lib.hid (show ∀ (W':World) (u v t:Value),Below W0.heap.size W0 W'→(((W'.setCell ⟨B0,0,none⟩ u).setCell ⟨B0,1,none⟩ v).setCell ⟨B0,2,none⟩ t).cell? ⟨w.heap.size,0,none⟩=some (.bool a0_0)∧(((W'.setCell ⟨B0,0,none⟩ u).setCell ⟨B0,1,none⟩ v).setCell ⟨B0,2,none⟩ t).cell? ⟨X0,0,none⟩=some (.bool a1_0) from fun W' u v t h =>
  have k:=Below.setCell (p:=⟨B0,2,none⟩) (Below.setCell (p:=⟨B0,1,none⟩) (Below.setCell (p:=⟨B0,0,none⟩) (h.mono HLE.out) (Nat.le_refl _) u) (Nat.le_refl _) v) (Nat.le_refl _) t
  ⟨(HFA.out.keep k HLT.out.1).c0,(HFB.out.keep k HLT.out.2).c0⟩)
 by_cases hs:(a0_0 == a1_0)=true
 ·obtain ⟨t,ht,h⟩:=Option.bind_eq_some_iff.1 ((if_pos hs).symm.trans H.out)
  obtain ⟨⟨l0,l1,l2⟩,hl,h⟩:=Option.bind_eq_some_iff.1 h
  cases h
  have HT:=Lib.hid (fun W=>c1_Plus.calls x y t W ht)
  have HL:=Lib.hid (fun W=>c2_Lowest.calls a0_0 t d l0 l1 l2 W hl)
  clear ht hl H
  go_wp2_with fail
  go_region_held3 (fun w'=>w'.cell? ⟨w.heap.size,0,none⟩=some (.bool a0_0)∧w'.cell? ⟨X0,0,none⟩=some (.bool a1_0))
   (first|(with_reducible refine HQS.out _ _ _ _ ?_; repeat (with_reducible first|exact Below.refl _ _|exact HB3.out|apply zap|apply zab|refine bthen ?_ hb5|refine bthen ?_ hb4|refine bthen ?_ hb6))|(with_reducible refine HQ.out _ ?_; repeat (with_reducible first|exact Below.refl _ _|exact HB3.out|apply zap|apply zab|refine bthen ?_ hb5|refine bthen ?_ hb4|refine bthen ?_ hb6)))
   ((first
    | (go_simp; go_at_call 129; refine (HT.out _).mono ?_; rintro e w4 ⟨rfl,hb4⟩)
    | (go_simp; go_at_call 111; refine (HL.out _).mono ?_; rintro e w5 ⟨rfl,hb5⟩; have fr5:=HFR.out.below (show Below W0.heap.size W0 w5 from (by repeat (with_reducible first|exact Below.refl _ _|exact HB3.out|apply zap|apply zab|refine bthen ?_ hb5|refine bthen ?_ hb4|refine bthen ?_ hb6))); have cB0:=fr5.c0; have cB1:=fr5.c1; have cB2:=fr5.c2; have fB0:=zad fr5 0; have fB1:=zad fr5 1; have fB2:=zad fr5 2)))
  have hs1:=zat fr5 0 (.bool l0)
  have hs2:=zat hs1 1 (.string l1)
  have hs3:=zat hs2 2 (.string l2)
  have HS3:=Lib.hid (hs3.trans (show _=some (Obj.cells #[.bool l0,.string l1,.string l2] 66 (0,0)) from rfl))
  have HBF:=Lib.hid (zag (zag (zag (g:=B0) (j:=0) (v:=.bool l0) (bthen HBA.out (show Below W0.heap.size W0 w5 from (by repeat (with_reducible first|exact Below.refl _ _|exact HB3.out|apply zap|apply zab|refine bthen ?_ hb5|refine bthen ?_ hb4|refine bthen ?_ hb6)))) HBE.out) (j:=1) (v:=.string l1) (g:=B0) HBE.out) (j:=2) (v:=.string l2) (g:=B0) HBE.out)
  clear hs1 hs2 hs3 fr5 cB0 cB1 cB2 fB0 fB1 fB2 hb4 hb5
  go_wp2
  refine bodyPost_ret (results_cell_row rfl _ _ B0 66 #[.bool l0,.string l1,.string l2] (0,0) _ rfl HS3.out Tryz.underlying66 rfl (by kernel_rfl)) rfl ?_
  exact ⟨rfl,HBF.out⟩
 ·obtain ⟨c,hc,h⟩:=Option.bind_eq_some_iff.1 ((if_neg hs).symm.trans H.out)
  have HCc:=Lib.hid (fun W=>c1_Compare.calls x y c W hc)
  have hs':(a0_0 == a1_0)=false:=by simpa using hs
  clear hc hs H
  go_wp2_with fail
  refine (HCc.out _).mono ?_
  rintro e w6 ⟨rfl,hb6⟩
  by_cases hg:c≥0
  ·obtain ⟨t,ht,h⟩:=Option.bind_eq_some_iff.1 ((if_pos hg).symm.trans h)
   obtain ⟨⟨l0,l1,l2⟩,hl,h⟩:=Option.bind_eq_some_iff.1 h
   cases h
   have HT:=Lib.hid (fun W=>c1_Minus.calls x y t W ht)
   have HL:=Lib.hid (fun W=>c2_Lowest.calls a0_0 t d l0 l1 l2 W hl)
   clear ht hl HCc
   go_wp2_with fail
   go_region_held3 (fun w'=>w'.cell? ⟨w.heap.size,0,none⟩=some (.bool a0_0)∧w'.cell? ⟨X0,0,none⟩=some (.bool a1_0))
    (first|(with_reducible refine HQS.out _ _ _ _ ?_; repeat (with_reducible first|exact Below.refl _ _|exact HB3.out|apply zap|apply zab|refine bthen ?_ hb5|refine bthen ?_ hb4|refine bthen ?_ hb6))|(with_reducible refine HQ.out _ ?_; repeat (with_reducible first|exact Below.refl _ _|exact HB3.out|apply zap|apply zab|refine bthen ?_ hb5|refine bthen ?_ hb4|refine bthen ?_ hb6)))
    ((first
     | (go_simp; go_at_call 130; refine (HT.out _).mono ?_; rintro e w4 ⟨rfl,hb4⟩)
     | (go_simp; go_at_call 111; refine (HL.out _).mono ?_; rintro e w5 ⟨rfl,hb5⟩; have fr5:=HFR.out.below (show Below W0.heap.size W0 w5 from (by repeat (with_reducible first|exact Below.refl _ _|exact HB3.out|apply zap|apply zab|refine bthen ?_ hb5|refine bthen ?_ hb4|refine bthen ?_ hb6))); have cB0:=fr5.c0; have cB1:=fr5.c1; have cB2:=fr5.c2; have fB0:=zad fr5 0; have fB1:=zad fr5 1; have fB2:=zad fr5 2)))
   have hs1:=zat fr5 0 (.bool l0)
   have hs2:=zat hs1 1 (.string l1)
   have hs3:=zat hs2 2 (.string l2)
   have HS3:=Lib.hid (hs3.trans (show _=some (Obj.cells #[.bool l0,.string l1,.string l2] 66 (0,0)) from rfl))
   have HBF:=Lib.hid (zag (zag (zag (g:=B0) (j:=0) (v:=.bool l0) (bthen HBA.out (show Below W0.heap.size W0 w5 from (by repeat (with_reducible first|exact Below.refl _ _|exact HB3.out|apply zap|apply zab|refine bthen ?_ hb5|refine bthen ?_ hb4|refine bthen ?_ hb6)))) HBE.out) (j:=1) (v:=.string l1) (g:=B0) HBE.out) (j:=2) (v:=.string l2) (g:=B0) HBE.out)
   clear hs1 hs2 hs3 fr5 cB0 cB1 cB2 fB0 fB1 fB2 hb4 hb5
   go_wp2
   refine bodyPost_ret (results_cell_row rfl _ _ B0 66 #[.bool l0,.string l1,.string l2] (0,0) _ rfl HS3.out Tryz.underlying66 rfl (by kernel_rfl)) rfl ?_
   exact ⟨rfl,HBF.out⟩
  ·obtain ⟨t,ht,h⟩:=Option.bind_eq_some_iff.1 ((if_neg hg).symm.trans h)
   obtain ⟨⟨l0,l1,l2⟩,hl,h⟩:=Option.bind_eq_some_iff.1 h
   cases h
   have HT:=Lib.hid (fun W=>c1_Minus.calls y x t W ht)
   have HL:=Lib.hid (fun W=>c2_Lowest.calls a1_0 t d l0 l1 l2 W hl)
   clear ht hl HCc
   go_wp2_with fail
   go_region_held3 (fun w'=>w'.cell? ⟨w.heap.size,0,none⟩=some (.bool a0_0)∧w'.cell? ⟨X0,0,none⟩=some (.bool a1_0))
    (first|(with_reducible refine HQS.out _ _ _ _ ?_; repeat (with_reducible first|exact Below.refl _ _|exact HB3.out|apply zap|apply zab|refine bthen ?_ hb5|refine bthen ?_ hb4|refine bthen ?_ hb6))|(with_reducible refine HQ.out _ ?_; repeat (with_reducible first|exact Below.refl _ _|exact HB3.out|apply zap|apply zab|refine bthen ?_ hb5|refine bthen ?_ hb4|refine bthen ?_ hb6)))
    ((first
     | (go_simp; go_at_call 130; refine (HT.out _).mono ?_; rintro e w4 ⟨rfl,hb4⟩)
     | (go_simp; go_at_call 111; refine (HL.out _).mono ?_; rintro e w5 ⟨rfl,hb5⟩; have fr5:=HFR.out.below (show Below W0.heap.size W0 w5 from (by repeat (with_reducible first|exact Below.refl _ _|exact HB3.out|apply zap|apply zab|refine bthen ?_ hb5|refine bthen ?_ hb4|refine bthen ?_ hb6))); have cB0:=fr5.c0; have cB1:=fr5.c1; have cB2:=fr5.c2; have fB0:=zad fr5 0; have fB1:=zad fr5 1; have fB2:=zad fr5 2)))
   have hs1:=zat fr5 0 (.bool l0)
   have hs2:=zat hs1 1 (.string l1)
   have hs3:=zat hs2 2 (.string l2)
   have HS3:=Lib.hid (hs3.trans (show _=some (Obj.cells #[.bool l0,.string l1,.string l2] 66 (0,0)) from rfl))
   have HBF:=Lib.hid (zag (zag (zag (g:=B0) (j:=0) (v:=.bool l0) (bthen HBA.out (show Below W0.heap.size W0 w5 from (by repeat (with_reducible first|exact Below.refl _ _|exact HB3.out|apply zap|apply zab|refine bthen ?_ hb5|refine bthen ?_ hb4|refine bthen ?_ hb6)))) HBE.out) (j:=1) (v:=.string l1) (g:=B0) HBE.out) (j:=2) (v:=.string l2) (g:=B0) HBE.out)
   clear hs1 hs2 hs3 fr5 cB0 cB1 cB2 fB0 fB1 fB2 hb4 hb5
   go_wp2
   refine bodyPost_ret (results_cell_row rfl _ _ B0 66 #[.bool l0,.string l1,.string l2] (0,0) _ rfl HS3.out Tryz.underlying66 rfl (by kernel_rfl)) rfl ?_
   exact ⟨rfl,HBF.out⟩
end Go.Proofs.ZQ
end
section
namespace Go.Proofs.ZQ
open Go.RowKit Go.Proofs.ZW.Wa Go.Proofs.ZW.Wb Go.Proofs.ZW.Wc
attribute [local go_sem] zaK zaI zaT zaS zaC zaB zaJ zaH
noncomputable def c2_Times.f (a0_0:Bool) (a0_1:ByteArray) (a0_2:ByteArray) (a1_0:Bool) (a1_1:ByteArray) (a1_2:ByteArray):Option (Bool×ByteArray×ByteArray):=(c1_Times.f a0_1 a1_1).bind fun t618=>((c1_Times.f a0_2 a1_2).bind fun t619=>((c2_Lowest.f (a0_0 != a1_0) t618 t619).bind fun bt620=>(some (bt620.1,bt620.2.1,bt620.2.2))))
noncomputable def c2_Times.B1:List Nat:=[0,1,0,4,15,0,32,0,128,480,0,1024,0,4096,16352,32767,65535]
noncomputable def c2_Minus.f (a0_0:Bool) (a0_1:ByteArray) (a0_2:ByteArray):Option (Bool×ByteArray×ByteArray):=if a0_0=true then (some (false,a0_1,a0_2)) else (some ((a0_1.toList != ([48]:List UInt8)),a0_1,a0_2))
theorem c2_Minus.calls (a0_0:Bool) (a0_1:ByteArray) (a0_2:ByteArray) (r1:Bool) (r2:ByteArray) (r3:ByteArray) (w:World) (h:c2_Minus.f a0_0 a0_1 a0_2=some (r1,r2,r3)) :
  Calls Tryz.prog 62 #[.agg #[.bool a0_0,.string a0_1,.string a0_2]] w fun e w'=>e = .returned (.agg #[.bool r1,.string r2,.string r3])∧Below w.heap.size w w':=by
 have hu66:=Tryz.underlying66
 have HB:=Aside0.mk (Below.refl w.heap.size w)
 have H:(if a0_0=true then (some (false,a0_1,a0_2)) else (some ((a0_1.toList != ([48]:List UInt8)),a0_1,a0_2)))=some (r1,r2,r3):=h
 clear h
 by_cases c2:a0_0=true
 ·subst c2
  have H1:(some (false,a0_1,a0_2))=some (r1,r2,r3):=by rw [if_pos rfl] at H; exact H
  clear H
  have H:=H1
  clear H1
  simp only [Option.some.injEq,Prod.mk.injEq] at H
  obtain ⟨rfl,rfl,rfl⟩:=H
  go_enter Tryz.func62,Tryz.ntmps62
  go_wp2_with (first|((with_reducible refine zaO (N:=1) rfl ?_); refine za2 ?hg (N:=1) ?hd (cs:=#[.bool true,.string a0_1,.string a0_2]) (t:=66) ?hr ?_; (case hd=>rfl); (case hg=>rfl); (case hr=>first|(go_simp; done)|(go_simp; rfl)); intro gb798 hg w3 hbox hb; have n0_:=Aside0.mk (zam (by repeat (first|(with_reducible first|exact HB.out|apply zaa|apply zab|apply zac)|exact HB.out)) hb); have n1_:=Aside0.mk (hbox); have n2_:=Aside0.mk ((by rw [hg]; exact (zan (by repeat (first|(with_reducible first|exact HB.out|apply zaa|apply zab|apply zac)|exact HB.out))):w.heap.size≤gb798)); have n3_:=Aside0.mk ((by rw [hg]; exact (zan (by repeat (first|(with_reducible first|exact HB.out|apply zaa|apply zab|apply zac)|exact HB.out))):w.heap.size≤gb798)); clear HB; have HB:=n0_; have BK798:=n1_; have GW798:=n2_; have GE798:=n3_; clear n0_ n1_ n2_ n3_; clear hb hbox hg)|((with_reducible refine zaO (N:=2) rfl ?_); refine za2 ?hg (N:=2) ?hd (cs:=#[.bool false,.string (⟨#[]⟩:ByteArray),.string (⟨#[]⟩:ByteArray)]) (t:=66) ?hr ?_; (case hd=>rfl); (case hg=>rfl); (case hr=>first|(go_simp; done)|(go_simp; rfl)); intro gb799 hg w4 hbox hb; have n0_:=Aside0.mk (zay (g:=gb798) (o:=.cells #[.bool true,.string a0_1,.string a0_2] 66 (0,0)) (by (with_reducible repeat (first|refine zah ?_ _|refine zal ?_|refine zai ?_ _)); exact BK798.out) hb); have n1_:=Aside0.mk (zam (by repeat (first|(with_reducible first|exact HB.out|apply zaa|apply zab|apply zac|refine zag ?_ GE798.out)|exact HB.out)) hb); have n2_:=Aside0.mk (hbox); have n3_:=Aside0.mk ((by rw [hg]; exact (zan (by repeat (first|(with_reducible first|exact HB.out|apply zaa|apply zab|apply zac|refine zag ?_ GE798.out)|exact HB.out))):w.heap.size≤gb799)); have n4_:=Aside0.mk ((by rw [hg]; exact (zan (by repeat (first|(with_reducible first|exact HB.out|apply zaa|apply zab|apply zac|refine zag ?_ GE798.out)|exact HB.out))):w.heap.size≤gb799)); have n5_:=Aside0.mk ((by rw [hg]; exact Nat.ne_of_lt (zar (g:=gb798) (o:=.cells #[.bool true,.string a0_1,.string a0_2] 66 (0,0)) (by (with_reducible repeat (first|refine zah ?_ _|refine zal ?_|refine zai ?_ _)); exact BK798.out)):gb798≠gb799)); have n6_:=Aside0.mk ((by rw [hg]; exact Nat.ne_of_gt (zar (g:=gb798) (o:=.cells #[.bool true,.string a0_1,.string a0_2] 66 (0,0)) (by (with_reducible repeat (first|refine zah ?_ _|refine zal ?_|refine zai ?_ _)); exact BK798.out)):gb799≠gb798)); clear BK798; clear HB; have BK798:=n0_; have HB:=n1_; have BK799:=n2_; have GW799:=n3_; have GE799:=n4_; have NB798_780:=n5_; have NB799_779:=n6_; clear n0_ n1_ n2_ n3_ n4_ n5_ n6_; clear hb hbox hg; have hnb5:=NB798_780.out; have hnc5:=NB799_779.out; have hcz6_0:w4.cell? ⟨gb798,0,none⟩=some (.bool true):=(zaf BK798.out 0).trans rfl; have hcz6_1:w4.cell? ⟨gb798,1,none⟩=some (.string a0_1):=(zaf BK798.out 1).trans rfl; have hcz6_2:w4.cell? ⟨gb798,2,none⟩=some (.string a0_2):=(zaf BK798.out 2).trans rfl; have hfz6_0:=zad BK798.out 0; have hfz6_1:=zad BK798.out 1; have hfz6_2:=zad BK798.out 2; have hcz7_0:w4.cell? ⟨gb799,0,none⟩=some (.bool false):=(zaf BK799.out 0).trans rfl; have hcz7_1:w4.cell? ⟨gb799,1,none⟩=some (.string (⟨#[]⟩:ByteArray)):=(zaf BK799.out 1).trans rfl; have hcz7_2:w4.cell? ⟨gb799,2,none⟩=some (.string (⟨#[]⟩:ByteArray)):=(zaf BK799.out 2).trans rfl; have hfz7_0:=zad BK799.out 0; have hfz7_1:=zad BK799.out 1; have hfz7_2:=zad BK799.out 2))
  refine bodyPost_ret (results_cell_row rfl _ _ gb799 66 #[.bool false,.string a0_1,.string a0_2] (0,0) _ rfl (by (with_reducible repeat (first|refine zah ?_ _|refine zal ?_|refine zai ?_ _)); refine zaF (cs:=#[.bool false,.string a0_1,.string (⟨#[]⟩:ByteArray)]) ?_ 2 _ rfl; (with_reducible repeat (first|refine zah ?_ _|refine zal ?_|refine zai ?_ _)); refine zaF (cs:=#[.bool false,.string (⟨#[]⟩:ByteArray),.string (⟨#[]⟩:ByteArray)]) ?_ 1 _ rfl; (with_reducible repeat (first|refine zah ?_ _|refine zal ?_|refine zai ?_ _)); refine zaF (cs:=#[.bool false,.string (⟨#[]⟩:ByteArray),.string (⟨#[]⟩:ByteArray)]) ?_ 0 _ rfl; (with_reducible repeat (first|refine zah ?_ _|refine zal ?_|refine zai ?_ _)); refine blk_far ?_ NB799_779.out _; (with_reducible repeat (first|refine zah ?_ _|refine zal ?_|refine zai ?_ _)); exact BK799.out) Tryz.underlying66 rfl (by kernel_rfl)) rfl ?_
  exact ⟨by first|rfl|(simp [zak,zaj]<;>rfl)|(simp [*,zak,zaj]<;>rfl),by repeat (first|(with_reducible first|exact HB.out|apply zaa|apply zab|apply zac|refine zag ?_ GE798.out|refine zag ?_ GE799.out)|exact HB.out)⟩
 ·replace c2:=Bool.eq_false_iff.mpr c2
  subst c2
  have H1:(some ((a0_1.toList != ([48]:List UInt8)),a0_1,a0_2))=some (r1,r2,r3):=by rw [if_neg (show ¬ (false=true) by decide)] at H; exact H
  clear H
  have H:=H1
  clear H1
  simp only [Option.some.injEq,Prod.mk.injEq] at H
  obtain ⟨rfl,rfl,rfl⟩:=H
  go_enter Tryz.func62,Tryz.ntmps62
  go_wp2_with (first|((with_reducible refine zaO (N:=1) rfl ?_); refine za2 ?hg (N:=1) ?hd (cs:=#[.bool false,.string a0_1,.string a0_2]) (t:=66) ?hr ?_; (case hd=>rfl); (case hg=>rfl); (case hr=>first|(go_simp; done)|(go_simp; rfl)); intro gb798 hg w8 hbox hb; have n0_:=Aside0.mk (zam (by repeat (first|(with_reducible first|exact HB.out|apply zaa|apply zab|apply zac)|exact HB.out)) hb); have n1_:=Aside0.mk (hbox); have n2_:=Aside0.mk ((by rw [hg]; exact (zan (by repeat (first|(with_reducible first|exact HB.out|apply zaa|apply zab|apply zac)|exact HB.out))):w.heap.size≤gb798)); have n3_:=Aside0.mk ((by rw [hg]; exact (zan (by repeat (first|(with_reducible first|exact HB.out|apply zaa|apply zab|apply zac)|exact HB.out))):w.heap.size≤gb798)); clear HB; have HB:=n0_; have BK798:=n1_; have GW798:=n2_; have GE798:=n3_; clear n0_ n1_ n2_ n3_; clear hb hbox hg)|((with_reducible refine zaO (N:=2) rfl ?_); refine za2 ?hg (N:=2) ?hd (cs:=#[.bool false,.string (⟨#[]⟩:ByteArray),.string (⟨#[]⟩:ByteArray)]) (t:=66) ?hr ?_; (case hd=>rfl); (case hg=>rfl); (case hr=>first|(go_simp; done)|(go_simp; rfl)); intro gb799 hg w9 hbox hb; have n0_:=Aside0.mk (zay (g:=gb798) (o:=.cells #[.bool false,.string a0_1,.string a0_2] 66 (0,0)) (by (with_reducible repeat (first|refine zah ?_ _|refine zal ?_|refine zai ?_ _)); exact BK798.out) hb); have n1_:=Aside0.mk (zam (by repeat (first|(with_reducible first|exact HB.out|apply zaa|apply zab|apply zac|refine zag ?_ GE798.out)|exact HB.out)) hb); have n2_:=Aside0.mk (hbox); have n3_:=Aside0.mk ((by rw [hg]; exact (zan (by repeat (first|(with_reducible first|exact HB.out|apply zaa|apply zab|apply zac|refine zag ?_ GE798.out)|exact HB.out))):w.heap.size≤gb799)); have n4_:=Aside0.mk ((by rw [hg]; exact (zan (by repeat (first|(with_reducible first|exact HB.out|apply zaa|apply zab|apply zac|refine zag ?_ GE798.out)|exact HB.out))):w.heap.size≤gb799)); have n5_:=Aside0.mk ((by rw [hg]; exact Nat.ne_of_lt (zar (g:=gb798) (o:=.cells #[.bool false,.string a0_1,.string a0_2] 66 (0,0)) (by (with_reducible repeat (first|refine zah ?_ _|refine zal ?_|refine zai ?_ _)); exact BK798.out)):gb798≠gb799)); have n6_:=Aside0.mk ((by rw [hg]; exact Nat.ne_of_gt (zar (g:=gb798) (o:=.cells #[.bool false,.string a0_1,.string a0_2] 66 (0,0)) (by (with_reducible repeat (first|refine zah ?_ _|refine zal ?_|refine zai ?_ _)); exact BK798.out)):gb799≠gb798)); clear BK798; clear HB; have BK798:=n0_; have HB:=n1_; have BK799:=n2_; have GW799:=n3_; have GE799:=n4_; have NB798_780:=n5_; have NB799_779:=n6_; clear n0_ n1_ n2_ n3_ n4_ n5_ n6_; clear hb hbox hg; have hnb10:=NB798_780.out; have hnc10:=NB799_779.out; have hcz11_0:w9.cell? ⟨gb798,0,none⟩=some (.bool false):=(zaf BK798.out 0).trans rfl; have hcz11_1:w9.cell? ⟨gb798,1,none⟩=some (.string a0_1):=(zaf BK798.out 1).trans rfl; have hcz11_2:w9.cell? ⟨gb798,2,none⟩=some (.string a0_2):=(zaf BK798.out 2).trans rfl; have hfz11_0:=zad BK798.out 0; have hfz11_1:=zad BK798.out 1; have hfz11_2:=zad BK798.out 2; have hcz12_0:w9.cell? ⟨gb799,0,none⟩=some (.bool false):=(zaf BK799.out 0).trans rfl; have hcz12_1:w9.cell? ⟨gb799,1,none⟩=some (.string (⟨#[]⟩:ByteArray)):=(zaf BK799.out 1).trans rfl; have hcz12_2:w9.cell? ⟨gb799,2,none⟩=some (.string (⟨#[]⟩:ByteArray)):=(zaf BK799.out 2).trans rfl; have hfz12_0:=zad BK799.out 0; have hfz12_1:=zad BK799.out 1; have hfz12_2:=zad BK799.out 2))
  refine bodyPost_ret (results_cell_row rfl _ _ gb799 66 #[.bool (a0_1.toList != ([48]:List UInt8)),.string a0_1,.string a0_2] (0,0) _ rfl (by (with_reducible repeat (first|refine zah ?_ _|refine zal ?_|refine zai ?_ _)); refine zaF (cs:=#[.bool (a0_1.toList != ([48]:List UInt8)),.string a0_1,.string (⟨#[]⟩:ByteArray)]) ?_ 2 _ rfl; (with_reducible repeat (first|refine zah ?_ _|refine zal ?_|refine zai ?_ _)); refine zaF (cs:=#[.bool (a0_1.toList != ([48]:List UInt8)),.string (⟨#[]⟩:ByteArray),.string (⟨#[]⟩:ByteArray)]) ?_ 1 _ rfl; (with_reducible repeat (first|refine zah ?_ _|refine zal ?_|refine zai ?_ _)); refine zaF (cs:=#[.bool false,.string (⟨#[]⟩:ByteArray),.string (⟨#[]⟩:ByteArray)]) ?_ 0 _ rfl; (with_reducible repeat (first|refine zah ?_ _|refine zal ?_|refine zai ?_ _)); refine blk_far ?_ NB799_779.out _; (with_reducible repeat (first|refine zah ?_ _|refine zal ?_|refine zai ?_ _)); exact BK799.out) Tryz.underlying66 rfl (by kernel_rfl)) rfl ?_
  exact ⟨by first|rfl|(simp [zak,zaj]<;>rfl)|(simp [*,zak,zaj]<;>rfl),by repeat (first|(with_reducible first|exact HB.out|apply zaa|apply zab|apply zac|refine zag ?_ GE798.out|refine zag ?_ GE799.out)|exact HB.out)⟩
noncomputable def c2_Over.f (a0_0:Bool) (a0_1:ByteArray) (a0_2:ByteArray):Option (Bool×ByteArray×ByteArray):=some (a0_0,a0_2,a0_1)
end Go.Proofs.ZQ
end
section
namespace Go.Proofs.ZQ
open Go.RowKit Go.Proofs.ZW.Wa Go.Proofs.ZP
def Sz (k:Nat) (x:Rat):Prop:=(T x.num.natAbs).size≤k∧(T x.den).size≤k
theorem rr_sz {a b:ByteArray} {x:Rat} (h:RR a b x):Sz 600 x:=⟨(zaw (k:=600) (by decide)).2 h.ln,(zaw (k:=600) (by decide)).2 h.ld⟩
theorem sz_div {s:Bool} {a b k:Nat} (hb:0<b) (ha:(T a).size≤k) (hbs:(T b).size≤k):Sz k (Rat.divInt (sgn s a) b):=by
 obtain ⟨f1,f2,f3⟩:=zdq s a b hb
 refine ⟨?_,?_⟩
 ·rw [f1]; exact Nat.le_trans (zaD (Nat.div_le_self _ _)) ha
 ·rw [f2]; exact Nat.le_trans (zaD (Nat.div_le_self _ _)) hbs
theorem Plus_Fr {x y:Rat} {k:Nat} (hx:Sz k x) (hy:Sz k y) (hk:k≤1000000):c2_Plus.f (Fr x).1 (Fr x).2.1 (Fr x).2.2 (Fr y).1 (Fr y).2.1 (Fr y).2.2=some (Fr (x+y))∧Sz (2*k+1) (x+y):=by
 have hxd:=x.den_pos
 have hyd:=y.den_pos
 obtain ⟨hx1,hx2⟩:=hx
 obtain ⟨hy1,hy2⟩:=hy
 have hsum:x+y=Rat.divInt (sgn (decide (x.num<0)) (x.num.natAbs*y.den)+sgn (decide (y.num<0)) (y.num.natAbs*x.den)) ((x.den*y.den:Nat):Int):=by
  rw [zcY,←zc3,←zc3,sgn_of,sgn_of,Int.natCast_mul]
 rw [hsum]
 unfold c2_Plus.f
 show (c1_Times.f (T x.num.natAbs) (T y.den)).bind _=_∧_
 have m1:=za9 x.num.natAbs y.den
 have m2:=za9 y.num.natAbs x.den
 have m3:=za9 x.den y.den
 have hd:0<x.den*y.den:=Nat.mul_pos hxd hyd
 rw [Times_T (by omega) (by omega),Option.bind_some]
 show (c1_Times.f (T y.num.natAbs) (T x.den)).bind _=_∧_
 rw [Times_T (by omega) (by omega),Option.bind_some]
 show (c1_Times.f (T x.den) (T y.den)).bind _=_∧_
 rw [Times_T (by omega) (by omega),Option.bind_some]
 show (if (decide (x.num<0) == decide (y.num<0))=true then _ else _)=_∧_
 have e1:(Fr x).1=decide (x.num<0):=rfl
 have e2:(Fr y).1=decide (y.num<0):=rfl
 rw [e1,e2]
 generalize decide (x.num<0)=s
 generalize decide (y.num<0)=t
 generalize x.num.natAbs*y.den=A at *
 generalize y.num.natAbs*x.den=B at *
 generalize x.den*y.den=C at *
 have hadd:=zcs A B (2*k) (by omega) (by omega)
 by_cases hst:s=t
 ·subst hst
  rw [if_pos (beq_self_eq_true s),Plus_T (by omega) (by omega),Option.bind_some,lowest_T s (A+B) C hd (by omega) (by omega),Option.bind_some,sgn_add_same]
  exact ⟨rfl,sz_div hd (by omega) (by omega)⟩
 ·rw [if_neg (fun e=>hst (beq_iff_eq.1 e)),Compare_T (by omega) (by omega),Option.bind_some]
  by_cases hle:B≤A
  ·have hc:cmpN A B≥0:=by unfold cmpN; split; omega; split<;>omega
   have h3:(T (A-B)).size≤(T A).size:=zaD (Nat.sub_le _ _)
   rw [if_pos hc,Minus_T (by omega) (by omega) hle,Option.bind_some,lowest_T s (A-B) C hd (by omega) (by omega),Option.bind_some,sgn_add_ge s t A B hst hle]
   exact ⟨rfl,sz_div hd (by omega) (by omega)⟩
  ·have hc:¬ cmpN A B≥0:=by unfold cmpN; rw [if_pos (by omega)]; decide
   have h3:(T (B-A)).size≤(T B).size:=zaD (Nat.sub_le _ _)
   rw [if_neg hc,Minus_T (by omega) (by omega) (by omega),Option.bind_some,lowest_T t (B-A) C hd (by omega) (by omega),Option.bind_some,sgn_add_lt s t A B hst (by omega)]
   exact ⟨rfl,sz_div hd (by omega) (by omega)⟩
theorem Minus_Fr (x:Rat):c2_Minus.f (Fr x).1 (Fr x).2.1 (Fr x).2.2=some (Fr (-x)):=by
 have e1:(-x).num = -x.num:=Rat.neg_num x
 have e2:(-x).den=x.den:=rfl
 unfold c2_Minus.f Fr
 rw [e1,e2,Int.natAbs_neg]
 show (if decide (x.num<0)=true then _ else _)=_
 by_cases h:x.num<0
 ·rw [if_pos (decide_eq_true h),decide_eq_false (show ¬ -x.num<0 by omega)]
 ·rw [if_neg (by simpa using h)]
  refine congrArg some ?_
  show ((T x.num.natAbs).toList != [48],T x.num.natAbs,T x.den)=_
  by_cases h0:x.num=0
  ·rw [h0]
   have:((T (0:Int).natAbs).toList != ([48]:List UInt8))=false:=by
    show ((T 0).toList != ([48]:List UInt8))=false
    rw [b48.2 rfl]; rfl
   rw [this]; rfl
  ·rw [decide_eq_true (show -x.num<0 by omega),bne_iff_ne.2 (fun e=>h0 (by have:=T_inj (b48.1 e); omega))]
theorem core_no {a b:ByteArray} (h:¬ ∃ x,RR a b x):coreB (spl a).1 (spl a).2 b=false:=by
 cases hc:coreB (spl a).1 (spl a).2 b
 ·rfl
 ·exact absurd ((core_iff a b).1 hc) h
theorem right_yes {a b:ByteArray} {x:Rat} (h:RR a b x):Ev (fun k=>c2_Right.f k a b) true:=by
 have:=right_ev a b
 rwa [(core_iff a b).2 ⟨x,h⟩] at this
theorem right_no {a b:ByteArray} (h:¬ ∃ x,RR a b x):Ev (fun k=>c2_Right.f k a b) false:=by
 have:=right_ev a b
 rwa [core_no h] at this
theorem tell_ok (x:Rat):tell 0 x=toldR x:=if_pos rfl
theorem neg_sz {x:Rat} {k:Nat} (h:Sz k x):Sz k (-x):=by
 unfold Sz at *
 rw [Rat.neg_num,Int.natAbs_neg]; exact h
end Go.Proofs.ZQ
end
section
namespace Go.Proofs.ZQ
open Go.RowKit Go.Proofs.ZW.Wa Go.Proofs.ZP Go.Proofs.ZW.Wb Go.Proofs.ZW.Wc
def RbAt (w:World) (b:Nat) (x y:ByteArray):Prop:=w.heap[b]? = some (.cells #[.string x,.string y] 23 (0,0))
theorem RbAt.c0 {w:World} {b:Nat} {x y:ByteArray} (h:RbAt w b x y):w.cell? ⟨b,0,none⟩=some (.string x):=(zaf h 0).trans rfl
theorem RbAt.c1 {w:World} {b:Nat} {x y:ByteArray} (h:RbAt w b x y):w.cell? ⟨b,1,none⟩=some (.string y):=(zaf h 1).trans rfl
theorem RbAt.below {w w':World} {b:Nat} {x y:ByteArray} (h:RbAt w b x y) (hb:Below w.heap.size w w'):RbAt w' b x y:=(hb.block _ (zar h)).trans h
theorem RbAt.keep {w w':World} {b n:Nat} {x y:ByteArray} (h:RbAt w b x y) (hb:Below n w w') (hn:b<n):RbAt w' b x y:=(hb.block _ hn).trans h
theorem RbAt.new (w:World) (x y:ByteArray):RbAt (w.alloc (.cells #[.string x,.string y] 23)) w.heap.size x y:=zaz w _
theorem RbAt.alloc {w:World} {b:Nat} {x y:ByteArray} (h:RbAt w b x y) (o:Obj):RbAt (w.alloc o) b x y:=h.below (zaa (Below.refl _ _) _)
theorem rb_put {w w2:World} {D:Nat} {x y:ByteArray} (f:RbAt w2 D x y) (hb:Below w.heap.size w w2) (hD:w.heap.size≤D) (u v:ByteArray):RbAt ((w2.setCell ⟨D,0,none⟩ (.string u)).setCell ⟨D,1,none⟩ (.string v)) D u v∧Below w.heap.size w ((w2.setCell ⟨D,0,none⟩ (.string u)).setCell ⟨D,1,none⟩ (.string v)):=
 ⟨(zat (zat f 0 (.string u)) 1 (.string v)).trans rfl,zag (zag hb hD) hD⟩
theorem rb_three (w:World) (a b c d e f:ByteArray):RbAt (((w.alloc (.cells #[.string a,.string b] 23)).alloc (.cells #[.string c,.string d] 23)).alloc (.cells #[.string e,.string f] 23)) w.heap.size a b ∧
  RbAt (((w.alloc (.cells #[.string a,.string b] 23)).alloc (.cells #[.string c,.string d] 23)).alloc (.cells #[.string e,.string f] 23)) (w.heap.size+1) c d ∧
  RbAt (((w.alloc (.cells #[.string a,.string b] 23)).alloc (.cells #[.string c,.string d] 23)).alloc (.cells #[.string e,.string f] 23)) (w.heap.size+1+1) e f ∧
  Below w.heap.size w (((w.alloc (.cells #[.string a,.string b] 23)).alloc (.cells #[.string c,.string d] 23)).alloc (.cells #[.string e,.string f] 23)):=by
 refine ⟨((RbAt.new w a b).alloc _).alloc _,?_,?_,zaa (zaa (zaa (Below.refl _ _) _) _) _⟩
 ·have h:=(RbAt.new (w.alloc (.cells #[.string a,.string b] 23)) c d).alloc (.cells #[.string e,.string f] 23)
  rw [World.size_alloc] at h
  exact h
 ·have h:=RbAt.new ((w.alloc (.cells #[.string a,.string b] 23)).alloc (.cells #[.string c,.string d] 23)) e f
  rw [World.size_alloc,World.size_alloc] at h
  exact h
theorem rb_two (w:World) (a b c d:ByteArray):RbAt ((w.alloc (.cells #[.string a,.string b] 23)).alloc (.cells #[.string c,.string d] 23)) w.heap.size a b ∧
  RbAt ((w.alloc (.cells #[.string a,.string b] 23)).alloc (.cells #[.string c,.string d] 23)) (w.heap.size+1) c d ∧
  Below w.heap.size w ((w.alloc (.cells #[.string a,.string b] 23)).alloc (.cells #[.string c,.string d] 23)):=by
 refine ⟨(RbAt.new w a b).alloc _,?_,zaa (zaa (Below.refl _ _) _) _⟩
 have h:=RbAt.new (w.alloc (.cells #[.string a,.string b] 23)) c d
 rw [World.size_alloc] at h
 exact h
def Ans (f:FuncId) (args:Array Value) (v:Value):Prop:=∀ W:World,Calls Tryz.prog f args W fun e w'=>e = .returned v∧Below W.heap.size W w'
theorem zb0 {a b:ByteArray} {x:Rat} (h:RR a b x):Ans 36 #[.agg #[.string a,.string b]] (.bool true):=fun W=>by
 obtain ⟨k,hk⟩:=(right_yes h).rounds
 exact c2_Right.calls k a b true W hk
theorem zcf {a b:ByteArray} (h:¬ ∃ x,RR a b x):Ans 36 #[.agg #[.string a,.string b]] (.bool false):=fun W=>by
 obtain ⟨k,hk⟩:=(right_no h).rounds
 exact c2_Right.calls k a b false W hk
def FrV (x:Rat):Value:=.agg #[.bool (Fr x).1,.string (Fr x).2.1,.string (Fr x).2.2]
theorem read_ans {a b:ByteArray} {x:Rat} (h:RR a b x):Ans 61 #[.agg #[.string a,.string b]] (FrV x):=fun W=>by
 obtain ⟨k,hk⟩:=(read_ev a b x h).rounds
 exact c2_Read.calls k a b _ _ _ W hk
theorem told_ans (x:Rat):Ans 110 #[FrV x] (.tuple #[.agg #[.string (toldR x).1,.string (toldR x).2.1],.int .i64 (toldR x).2.2]):=fun W=>by
 obtain ⟨k,hk⟩:=(told_ev x).rounds
 exact c2_Told.calls k _ _ _ _ _ _ W hk
end Go.Proofs.ZQ
end
section
namespace Go.Proofs.ZQ
open Go.RowKit Go.Proofs.ZW.Wa Go.Proofs.ZP
structure St4 (w W:World) (A B X Y:Nat) (a0 a1 b0 b1 x0 x1 y0 y1:ByteArray):Prop where
 a:RbAt W A a0 a1
 b:RbAt W B b0 b1
 x:RbAt W X x0 x1
 y:RbAt W Y y0 y1
 hb:Below w.heap.size w W
 d:w.heap.size≤X∧A<X∧B<X∧X<Y
theorem St4.call {w W W':World} {A B X Y:Nat} {a0 a1 b0 b1 x0 x1 y0 y1:ByteArray} (h:St4 w W A B X Y a0 a1 b0 b1 x0 x1 y0 y1) (k:Below W.heap.size W W'):St4 w W' A B X Y a0 a1 b0 b1 x0 x1 y0 y1:=
 ⟨h.a.below k,h.b.below k,h.x.below k,h.y.below k,bthen h.hb k,h.d⟩
theorem twoF_some (why:Rat→Rat→Int) (op:Rat→Rat→Rat) (a0 a1 b0 b1:ByteArray):∃ r1 r2 r3,twoF why op a0 a1 b0 b1=some (r1,r2,r3):=by
 by_cases h:(∃ x,RR a0 a1 x)∧∃ y,RR b0 b1 y
 ·obtain ⟨⟨x,hx⟩,y,hy⟩:=h
  exact ⟨_,_,_,twoF_yes hx hy⟩
 ·exact ⟨_,_,_,twoF_no h⟩
theorem divide_n {a b:Nat} (ha:(T a).size≤1000000) (hb:(T b).size≤1000000) (h:0<b):Ans 128 #[.string (T a),.string (T b)] (.tuple #[.string (T (a/b)),.string (T (a%b))]):=fun W=>(c1_Divide.calls _ _ _ _ W (zdA (by omega) (by omega) h)).mono fun e w' h=>h
theorem plus_n {a b:Nat} (ha:(T a).size≤1000000) (hb:(T b).size≤1000000):Ans 129 #[.string (T a),.string (T b)] (.string (T (a+b))):=fun W=>(c1_Plus.calls _ _ _ W (Plus_T (by omega) (by omega))).mono fun e w' h=>h
theorem times_n {a b:Nat} (ha:(T a).size≤1000000) (hb:(T b).size≤1000000):Ans 131 #[.string (T a),.string (T b)] (.string (T (a*b))):=fun W=>(c1_Times.calls _ _ _ W (Times_T (by omega) (by omega))).mono fun e w' h=>h
theorem minus_n {a b:Nat} (ha:(T a).size≤1000000) (hb:(T b).size≤1000000) (h:b≤a):Ans 130 #[.string (T a),.string (T b)] (.string (T (a-b))):=fun W=>(c1_Minus.calls _ _ _ W (Minus_T (by omega) (by omega) h)).mono fun e w' h=>h
theorem compare_n {a b:Nat} (ha:(T a).size≤1000000) (hb:(T b).size≤1000000):Ans 147 #[.string (T a),.string (T b)] (.int .i64 (cmpN a b)):=fun W=>(c1_Compare.calls _ _ _ W (Compare_T (by omega) (by omega))).mono fun e w' h=>h
theorem T_b0 {n:Nat}:((T n).toList == ([48]:List UInt8))=true↔n=0:=by
 rw [beq_iff_eq,b48]
 exact ⟨fun h=>T_inj h,fun h=>by rw [h]⟩
theorem T_not0 {n:Nat} (h:n≠0):((T n).toList == ([48]:List UInt8))=false:=by
 cases hb:((T n).toList == ([48]:List UInt8))
 ·rfl
 ·exact absurd (T_b0.1 hb) h
end Go.Proofs.ZQ
end
section
namespace Go.Proofs.ZP
inductive Simp:Rat→Rat→Rat→Prop
 | whole (x y:Rat) (h:((x.floor:Int):Rat)=x):Simp x y ((x.floor:Int):Rat)
 | up (x y:Rat) (h:((x.floor:Int):Rat)≠x) (k:((x.floor:Int):Rat)+1≤y):Simp x y (((x.floor:Int):Rat)+1)
 | inner (x y s:Rat) (h:((x.floor:Int):Rat)≠x) (k:¬ ((x.floor:Int):Rat)+1≤y) (r:Simp (y-((x.floor:Int):Rat))⁻¹ (x-((x.floor:Int):Rat))⁻¹ s):Simp x y (((x.floor:Int):Rat)+s⁻¹)
theorem fl_le (x:Rat):((x.floor:Int):Rat)≤x:=Rat.floor_le x
theorem fl_lt (x:Rat):x<((x.floor:Int):Rat)+1:=by
 have:=Rat.lt_floor_add_one x
 rwa [Rat.intCast_add] at this
theorem rpos {x:Rat}:0<x↔0<x.num:=by
 rw [Rat.lt_iff]; simp
theorem zbA (y:Rat) (f:Int):(y-(f:Rat)).num=y.num-f*y.den∧(y-(f:Rat)).den=y.den:=by
 have hd:=y.den_nz
 have hg:Nat.gcd (y.num-f*y.den).natAbs y.den=1:=by
  have hr:=y.reduced
  unfold Nat.Coprime at hr
  have h1:Int.gcd (y.num-f*y.den) y.den=Int.gcd y.num y.den:=by
   rw [show y.num-f*(y.den:Int)=y.num+(-f)*y.den by rw [Int.neg_mul]; rfl]
   exact Int.gcd_add_mul_right_left _ _ _
  exact h1.trans hr
 have hm:y-(f:Rat)=⟨y.num-f*y.den,y.den,hd,hg⟩:=by
  rw [Rat.sub_def',Rat.mk_eq_mkRat]
  simp
 rw [hm]
 exact ⟨rfl,rfl⟩
theorem inv_parts {x:Rat} (h:0<x):(x⁻¹).num=x.den∧((x⁻¹).den:Int)=x.num:=by
 have h:=rpos.1 h
 rw [Rat.num_inv,Rat.den_inv,if_neg (by omega),Int.sign_eq_one_of_pos h]
 exact ⟨by omega,by omega⟩
theorem fl_nonneg {x:Rat} (h:0<x):0≤x.floor:=Rat.le_floor_iff.2 (by rw [Rat.intCast_zero]; exact Rat.le_of_lt h)
theorem inv_le {a b:Rat} (ha:0<a) (h:a≤b):b⁻¹≤a⁻¹:=by
 have hb:0<b:=by grind
 have h1:=Rat.inv_pos.2 ha
 have h2:=Rat.inv_pos.2 hb
 have e1:=Rat.mul_inv_cancel a (by grind)
 have e2:=Rat.mul_inv_cancel b (by grind)
 have h3:=Rat.mul_le_mul_of_nonneg_right (Rat.mul_le_mul_of_nonneg_right h (Rat.le_of_lt h1)) (Rat.le_of_lt h2)
 have e3:a*a⁻¹*b⁻¹=b⁻¹:=by rw [e1,Rat.one_mul]
 have e4:b*a⁻¹*b⁻¹=a⁻¹:=by rw [Rat.mul_comm b,Rat.mul_assoc,e2,Rat.mul_one]
 rwa [e3,e4] at h3
theorem Simp.step {x y:Rat} (h0:0<x) (hxy:x≤y) (h:((x.floor:Int):Rat)≠x) (k:¬ ((x.floor:Int):Rat)+1≤y) :
  0<x-((x.floor:Int):Rat)∧0<y-((x.floor:Int):Rat)∧0<(y-((x.floor:Int):Rat))⁻¹∧(y-((x.floor:Int):Rat))⁻¹≤(x-((x.floor:Int):Rat))⁻¹:=by
 have h1:=fl_le x
 have h2:0<x-((x.floor:Int):Rat):=by grind
 have h3:0<y-((x.floor:Int):Rat):=by grind
 exact ⟨h2,h3,Rat.inv_pos.2 h3,inv_le h2 (by grind)⟩
theorem Simp.between {x y s:Rat} (h:Simp x y s) (h0:0<x) (hxy:x≤y):x≤s∧s≤y:=by
 induction h with
 | whole x y h=>rw [h]; exact ⟨Rat.le_refl,hxy⟩
 | up x y h k=>exact ⟨Rat.le_of_lt (fl_lt x),k⟩
 | inner x y s h k r ih =>
  obtain ⟨h1,h2,h3,h4⟩:=Simp.step h0 hxy h k
  obtain ⟨i1,i2⟩:=ih h3 h4
  have hs:0<s:=by grind
  have j1:=inv_le h3 i1
  have j2:=inv_le hs i2
  rw [Rat.inv_inv] at j1 j2
  constructor<;>grind
theorem zcj (f:Int) {t:Rat} (h:0<t):((f:Rat)+t⁻¹).num=f*t.num+t.den∧(((f:Rat)+t⁻¹).den:Int)=t.num:=by
 obtain ⟨h1,h2⟩:=inv_parts h
 have e:(f:Rat)+t⁻¹=t⁻¹-((-f:Int):Rat):=by rw [Rat.intCast_neg]; grind
 obtain ⟨h3,h4⟩:=zbA t⁻¹ (-f)
 rw [←e] at h3 h4
 refine ⟨?_,by rw [h4,h2]⟩
 rw [h3,h1,h2,Int.neg_mul,Int.sub_neg,Int.add_comm]
theorem Simp.least {x y s:Rat} (h:Simp x y s) (h0:0<x) (hxy:x≤y):∀ z,x≤z→z≤y→s.num≤z.num∧s.den≤z.den:=by
 induction h with
 | whole x y h =>
  intro z hz1 hz2
  have hd:=z.den_pos
  refine ⟨?_,by rw [Rat.den_intCast]; omega⟩
  rw [Rat.num_intCast]
  have hf:=fl_nonneg h0
  have h3:((x.floor:Int):Rat)≤z:=Rat.le_trans (fl_le x) hz1
  have h4:=(Rat.le_iff _ _).1 h3
  rw [Rat.num_intCast,Rat.den_intCast] at h4
  have h5:x.floor*1≤x.floor*(z.den:Int):=Int.mul_le_mul_of_nonneg_left (by omega) hf
  omega
 | up x y h k =>
  intro z hz1 hz2
  have hd:=z.den_pos
  have e:((x.floor:Int):Rat)+1=((x.floor+1:Int):Rat):=by rw [Rat.intCast_add]; rfl
  rw [e,Rat.num_intCast,Rat.den_intCast]
  refine ⟨?_,by omega⟩
  have hf:=fl_nonneg h0
  have h3:((x.floor:Int):Rat)<z:=by have:=fl_le x; grind
  have h4:=(Rat.lt_iff _ _).1 h3
  rw [Rat.num_intCast,Rat.den_intCast] at h4
  have h5:x.floor*1≤x.floor*(z.den:Int):=Int.mul_le_mul_of_nonneg_left (by omega) hf
  omega
 | inner x y s h k r ih =>
  intro z hz1 hz2
  obtain ⟨h1,h2,h3,h4⟩:=Simp.step h0 hxy h k
  obtain ⟨i1,i2⟩:=Simp.between r h3 h4
  have hs:0<s:=by grind
  have hz:0<z-((x.floor:Int):Rat):=by grind
  have ht:0<(z-((x.floor:Int):Rat))⁻¹:=Rat.inv_pos.2 hz
  have e:z=((x.floor:Int):Rat)+((z-((x.floor:Int):Rat))⁻¹)⁻¹:=by rw [Rat.inv_inv]; grind
  obtain ⟨k1,k2⟩:=ih h3 h4 (z-((x.floor:Int):Rat))⁻¹ (inv_le hz (by grind)) (inv_le h1 (by grind))
  obtain ⟨p1,p2⟩:=zcj x.floor hs
  obtain ⟨q1,q2⟩:=zcj x.floor ht
  rw [←e] at q1 q2
  have hf:=fl_nonneg h0
  have h5:x.floor*s.num≤x.floor*((z-((x.floor:Int):Rat))⁻¹).num:=Int.mul_le_mul_of_nonneg_left k1 hf
  constructor
  ·rw [p1,q1]; omega
  ·omega
theorem Simp.parts {x y:Rat} (h0:0<x) (hxy:x≤y) (h:((x.floor:Int):Rat)≠x) (k:¬ ((x.floor:Int):Rat)+1≤y) :
  ((y-((x.floor:Int):Rat))⁻¹).num=y.den∧(((y-((x.floor:Int):Rat))⁻¹).den:Int)=y.num-x.floor*y.den ∧
  ((x-((x.floor:Int):Rat))⁻¹).num=x.den∧(((x-((x.floor:Int):Rat))⁻¹).den:Int)=x.num-x.floor*x.den ∧
  0<y.num-x.floor*y.den∧y.num-x.floor*y.den<y.den∧0<x.num-x.floor*x.den∧x.num-x.floor*x.den<x.den:=by
 obtain ⟨h1,h2,h3,h4⟩:=Simp.step h0 hxy h k
 obtain ⟨a1,a2⟩:=inv_parts h2
 obtain ⟨b1,b2⟩:=inv_parts h1
 obtain ⟨c1,c2⟩:=zbA y x.floor
 obtain ⟨d1,d2⟩:=zbA x x.floor
 rw [c1] at a2
 rw [c2] at a1
 rw [d1] at b2
 rw [d2] at b1
 have p1:=rpos.1 h2
 have p2:=rpos.1 h1
 rw [c1] at p1
 rw [d1] at p2
 have q1:y-((x.floor:Int):Rat)<1:=by grind
 have q2:x-((x.floor:Int):Rat)<1:=by have:=fl_lt x; grind
 rw [Rat.lt_iff,c1,c2] at q1
 rw [Rat.lt_iff,d1,d2] at q2
 simp at q1 q2
 exact ⟨a1,a2,b1,b2,p1,q1,p2,q2⟩
theorem Simp.exists:∀ (n:Nat) (x y:Rat),x.den+y.den≤n→0<x→x≤y→∃ s,Simp x y s:=by
 intro n
 induction n with
 | zero=>intro x y hn h0 hxy; have:=x.den_pos; omega
 | succ n ih =>
  intro x y hn h0 hxy
  by_cases h:((x.floor:Int):Rat)=x
  ·exact ⟨_,.whole x y h⟩
  by_cases k:((x.floor:Int):Rat)+1≤y
  ·exact ⟨_,.up x y h k⟩
  obtain ⟨h1,h2,h3,h4⟩:=Simp.step h0 hxy h k
  obtain ⟨a1,a2,b1,b2,p1,q1,p2,q2⟩:=Simp.parts h0 hxy h k
  obtain ⟨s,hs⟩:=ih _ _ (by omega) h3 h4
  exact ⟨_,.inner x y s h k hs⟩
end Go.Proofs.ZP
end
section
namespace Go.Proofs.ZQ
open Go.RowKit Go.Proofs.ZW.Wa Go.Proofs.ZP
theorem btw_whole (a b c d:Nat) (hb:0<b) (ha:(T a).size≤700) (hbs:(T b).size≤700) (hc:(T c).size≤700) (hd:(T d).size≤700) (h:a%b=0):Ans 142 #[.string (T a),.string (T b),.string (T c),.string (T d)] (.tuple #[.string (T (a/b)),.string ⟨#[49]⟩]):=by
 have h1s:(T 1).size≤700:=by rw [←T_1]; decide
 have hq:(T (a/b)).size≤700:=Nat.le_trans (zaD (Nat.div_le_self a b)) ha
 have hr:(T (a%b)).size≤700:=Nat.le_trans (zaD (Nat.mod_le a b)) ha
 have hn:(T (a/b+1)).size≤701:=zcs _ _ 700 hq h1s
 have hnd:=za9 (a/b+1) d
 have HD:=Lib.hid (divide_n (a:=a) (b:=b) (by omega) (by omega) hb)
 have h0:=T_b0.2 h
 generalize T (a/b)=q at *
 generalize T (a%b)=r at *
 clear h1s hq hr hn hnd h ha hbs hc hd
 intro W
 go_enter Tryz.func142,Tryz.ntmps142
 go_wp2_with fail
 refine (HD.out _).mono ?_
 rintro e w1 ⟨rfl,hb1⟩
 have HB:=Lib.hid hb1
 clear hb1
 go_wp2
 go_ret2
 exact ⟨rfl,HB.out⟩
theorem btw_up (a b c d:Nat) (hb:0<b) (ha:(T a).size≤700) (hbs:(T b).size≤700) (hc:(T c).size≤700) (hd:(T d).size≤700) (h:a%b≠0) (k:(a/b+1)*d≤c):Ans 142 #[.string (T a),.string (T b),.string (T c),.string (T d)] (.tuple #[.string (T (a/b+1)),.string ⟨#[49]⟩]):=by
 have h1s:(T 1).size≤700:=by rw [←T_1]; decide
 have hq:(T (a/b)).size≤700:=Nat.le_trans (zaD (Nat.div_le_self a b)) ha
 have hr:(T (a%b)).size≤700:=Nat.le_trans (zaD (Nat.mod_le a b)) ha
 have hn:(T (a/b+1)).size≤701:=zcs _ _ 700 hq h1s
 have hnd:=za9 (a/b+1) d
 have HD:=Lib.hid (divide_n (a:=a) (b:=b) (by omega) (by omega) hb)
 have h0:=T_not0 h
 have e1:(⟨#[49]⟩:ByteArray)=T 1:=T_1
 have HP:=Lib.hid (plus_n (a:=a/b) (b:=1) (by omega) (by omega))
 rw [←e1] at HP
 have HT:=Lib.hid (times_n (a:=a/b+1) (b:=d) (by omega) (by omega))
 have HC:=Lib.hid (compare_n (a:=(a/b+1)*d) (b:=c) (by omega) (by omega))
 have hk:cmpN ((a/b+1)*d) c≤0:=by unfold cmpN; split<;>(try split)<;>omega
 generalize cmpN ((a/b+1)*d) c=cv at *
 generalize T ((a/b+1)*d)=nd at *
 generalize T (a/b+1)=nx at *
 generalize T (a/b)=q at *
 generalize T (a%b)=r at *
 clear h1s hq hr hn hnd h ha hbs hc hd k e1
 intro W
 go_enter Tryz.func142,Tryz.ntmps142
 go_wp2_with fail
 refine (HD.out _).mono ?_
 rintro e w1 ⟨rfl,hb1⟩
 go_wp2_with fail
 refine (HP.out _).mono ?_
 rintro e w2 ⟨rfl,hb2⟩
 go_wp2_with fail
 refine (HT.out _).mono ?_
 rintro e w3 ⟨rfl,hb3⟩
 go_wp2_with fail
 refine (HC.out _).mono ?_
 rintro e w4 ⟨rfl,hb4⟩
 have HB:=Lib.hid (bthen (bthen (bthen hb1 hb2) hb3) hb4)
 clear hb1 hb2 hb3 hb4
 go_wp2
 go_ret2
 exact ⟨rfl,HB.out⟩
theorem btw_inner (a b c d n m:Nat) (hb:0<b) (ha:(T a).size≤700) (hbs:(T b).size≤700) (hc:(T c).size≤700) (hd:(T d).size≤700) (h:a%b≠0) (k:¬ (a/b+1)*d≤c) (k2:a/b*d≤c) (hns:(T n).size≤700) (hms:(T m).size≤700) (HR:Ans 142 #[.string (T d),.string (T (c-a/b*d)),.string (T b),.string (T (a%b))] (.tuple #[.string (T n),.string (T m)])):Ans 142 #[.string (T a),.string (T b),.string (T c),.string (T d)] (.tuple #[.string (T (a/b*n+m)),.string (T n)]):=by
 have h1s:(T 1).size≤700:=by rw [←T_1]; decide
 have hq:(T (a/b)).size≤700:=Nat.le_trans (zaD (Nat.div_le_self a b)) ha
 have hr:(T (a%b)).size≤700:=Nat.le_trans (zaD (Nat.mod_le a b)) ha
 have hn:(T (a/b+1)).size≤701:=zcs _ _ 700 hq h1s
 have hnd:=za9 (a/b+1) d
 have HD:=Lib.hid (divide_n (a:=a) (b:=b) (by omega) (by omega) hb)
 have h0:=T_not0 h
 have e1:(⟨#[49]⟩:ByteArray)=T 1:=T_1
 have HP:=Lib.hid (plus_n (a:=a/b) (b:=1) (by omega) (by omega))
 rw [←e1] at HP
 have HT:=Lib.hid (times_n (a:=a/b+1) (b:=d) (by omega) (by omega))
 have HC:=Lib.hid (compare_n (a:=(a/b+1)*d) (b:=c) (by omega) (by omega))
 have hk:¬ cmpN ((a/b+1)*d) c≤0:=by unfold cmpN; split<;>(try split)<;>omega
 have hqd:=za9 (a/b) d
 have hqn:=za9 (a/b) n
 have HQ:=Lib.hid (times_n (a:=a/b) (b:=d) (by omega) (by omega))
 have HM:=Lib.hid (minus_n (a:=c) (b:=a/b*d) (by omega) (by omega) k2)
 have HN:=Lib.hid (times_n (a:=a/b) (b:=n) (by omega) (by omega))
 have HS:=Lib.hid (plus_n (a:=a/b*n) (b:=m) (by omega) (by omega))
 have HR:=Lib.hid HR
 generalize cmpN ((a/b+1)*d) c=cv at *
 generalize T ((a/b+1)*d)=nd at *
 generalize T (a/b+1)=nx at *
 generalize T (c-a/b*d)=cq at *
 generalize T (a/b*d)=qd at *
 generalize T (a/b*n+m)=sm at *
 generalize T (a/b*n)=qn at *
 generalize T (a/b)=q at *
 generalize T (a%b)=r at *
 clear h1s hq hr hn hnd h ha hbs hc hd k e1 hqd hqn hns hms k2
 intro W
 go_enter Tryz.func142,Tryz.ntmps142
 go_wp2_with fail
 refine (HD.out _).mono ?_
 rintro e w1 ⟨rfl,hb1⟩
 go_wp2_with fail
 refine (HP.out _).mono ?_
 rintro e w2 ⟨rfl,hb2⟩
 go_wp2_with fail
 refine (HT.out _).mono ?_
 rintro e w3 ⟨rfl,hb3⟩
 go_wp2_with fail
 refine (HC.out _).mono ?_
 rintro e w4 ⟨rfl,hb4⟩
 have HB:=Lib.hid (bthen (bthen (bthen hb1 hb2) hb3) hb4)
 clear hb1 hb2 hb3 hb4
 go_wp2_with fail
 refine (HQ.out _).mono ?_
 rintro e w5 ⟨rfl,hb5⟩
 go_wp2_with fail
 refine (HM.out _).mono ?_
 rintro e w6 ⟨rfl,hb6⟩
 replace HB:=Lib.hid (bthen (bthen HB.out hb5) hb6)
 clear hb5 hb6
 go_wp2_with fail
 refine (HR.out _).mono ?_
 rintro e w7 ⟨rfl,hb7⟩
 go_wp2_with fail
 refine (HN.out _).mono ?_
 rintro e w8 ⟨rfl,hb8⟩
 replace HB:=Lib.hid (bthen (bthen HB.out hb7) hb8)
 clear hb7 hb8
 go_wp2_with fail
 refine (HS.out _).mono ?_
 rintro e w9 ⟨rfl,hb9⟩
 replace HB:=Lib.hid (bthen HB.out hb9)
 clear hb9
 go_wp2
 go_ret2
 exact ⟨rfl,HB.out⟩
theorem zca {x:Rat} (h:0<x):x.floor=((x.num.natAbs/x.den:Nat):Int)∧x.num=(x.num.natAbs:Int)∧x.num-x.floor*x.den=((x.num.natAbs%x.den:Nat):Int):=by
 have hp:=rpos.1 h
 have h1:x.num=(x.num.natAbs:Int):=by omega
 have h2:x.floor=((x.num.natAbs/x.den:Nat):Int):=by
  rw [Rat.floor_def,Int.natCast_ediv,←h1]
 refine ⟨h2,h1,?_⟩
 rw [h2]
 have h3:=Nat.div_add_mod x.num.natAbs x.den
 have h4:((x.num.natAbs:Nat):Int)=((x.den*(x.num.natAbs/x.den)+x.num.natAbs%x.den:Nat):Int):=by rw [h3]
 rw [Int.natCast_add,Int.natCast_mul] at h4
 rw [Int.mul_comm]
 omega
theorem fl_eq_iff {x:Rat} (h:0<x):((x.floor:Int):Rat)=x↔x.num.natAbs%x.den=0:=by
 obtain ⟨h1,h2,h3⟩:=zca h
 have hd:=x.den_pos
 rw [Rat.eq_iff_mul_eq_mul,Rat.num_intCast,Rat.den_intCast]
 constructor
 ·intro e
  have e2:x.floor*(x.den:Int)=x.num*1:=e
  omega
 ·intro e
  rw [e] at h3
  show x.floor*(x.den:Int)=x.num*1
  omega
theorem fl_up_iff {x y:Rat} (h:0<x) (hy:0<y):((x.floor:Int):Rat)+1≤y↔(x.num.natAbs/x.den+1)*y.den≤y.num.natAbs:=by
 obtain ⟨h1,h2,h3⟩:=zca h
 obtain ⟨i1,i2,i3⟩:=zca hy
 have e:((x.floor:Int):Rat)+1=((x.floor+1:Int):Rat):=by rw [Rat.intCast_add]; rfl
 rw [e,Rat.le_iff,Rat.num_intCast,Rat.den_intCast,h1]
 have e3:(((x.num.natAbs/x.den:Nat):Int)+1)*(y.den:Int)=(((x.num.natAbs/x.den+1)*y.den:Nat):Int):=by rw [Int.natCast_mul,Int.natCast_add]; rfl
 rw [e3]
 show _≤y.num*((1:Nat):Int)↔_
 omega
theorem Simp.sz {k:Nat} {x y s:Rat} (h:Simp x y s) (h0:0<x) (hxy:x≤y) (hx:Sz k x):Sz k s:=by
 obtain ⟨h1,h2⟩:=h.least h0 hxy x Rat.le_refl hxy
 obtain ⟨h3,h4⟩:=h.between h0 hxy
 have h5:0<s.num:=rpos.1 (by grind)
 have h6:0<x.num:=rpos.1 h0
 exact ⟨Nat.le_trans (zaD (by omega)) hx.1,Nat.le_trans (zaD h2) hx.2⟩
theorem between_ans {x y s:Rat} (h:Simp x y s):0<x→x≤y→Sz 700 x→Sz 700 y →
  Ans 142 #[.string (T x.num.natAbs),.string (T x.den),.string (T y.num.natAbs),.string (T y.den)] (.tuple #[.string (T s.num.natAbs),.string (T s.den)]):=by
 induction h with
 | whole x y h =>
  intro h0 hxy hx hy
  obtain ⟨h1,h2,h3⟩:=zca h0
  have hr:=btw_whole x.num.natAbs x.den y.num.natAbs y.den x.den_pos hx.1 hx.2 hy.1 hy.2 ((fl_eq_iff h0).1 h)
  have e1:(((x.floor:Int):Rat)).num.natAbs=x.num.natAbs/x.den:=by rw [Rat.num_intCast,h1]; rfl
  have e2:(((x.floor:Int):Rat)).den=1:=rfl
  rw [e1,e2,←T_1]
  exact hr
 | up x y h k =>
  intro h0 hxy hx hy
  obtain ⟨h1,h2,h3⟩:=zca h0
  have hy0:0<y:=by grind
  have hr:=btw_up x.num.natAbs x.den y.num.natAbs y.den x.den_pos hx.1 hx.2 hy.1 hy.2 (fun e=>h ((fl_eq_iff h0).2 e)) ((fl_up_iff h0 hy0).1 k)
  have e:((x.floor:Int):Rat)+1=((x.floor+1:Int):Rat):=by rw [Rat.intCast_add]; rfl
  have e1:(((x.floor:Int):Rat)+1).num.natAbs=x.num.natAbs/x.den+1:=by rw [e,Rat.num_intCast,h1]; generalize x.num.natAbs/x.den=q; omega
  have e2:(((x.floor:Int):Rat)+1).den=1:=by rw [e]; rfl
  rw [e1,e2,←T_1]
  exact hr
 | inner x y s h k r ih =>
  intro h0 hxy hx hy
  obtain ⟨h1,h2,h3⟩:=zca h0
  have hy0:0<y:=by grind
  obtain ⟨i1,i2,i3⟩:=zca hy0
  obtain ⟨s1,s2,s3,s4⟩:=Simp.step h0 hxy h k
  obtain ⟨a1,a2,b1,b2,p1,q1,p2,q2⟩:=Simp.parts h0 hxy h k
  obtain ⟨m1,m2⟩:=Simp.between r s3 s4
  have hs0:0<s:=by grind
  obtain ⟨n1,n2⟩:=zcj x.floor hs0
  have hsn:=rpos.1 hs0
  have e1:((y-((x.floor:Int):Rat))⁻¹).num.natAbs=y.den:=by rw [a1]; rfl
  have e2:((y-((x.floor:Int):Rat))⁻¹).den=y.num.natAbs-x.num.natAbs/x.den*y.den:=by
   have e3:x.floor*(y.den:Int)=((x.num.natAbs/x.den*y.den:Nat):Int):=by rw [h1,Int.natCast_mul]
   rw [e3] at a2 p1
   omega
  have k2:x.num.natAbs/x.den*y.den≤y.num.natAbs:=by
   have e3:x.floor*(y.den:Int)=((x.num.natAbs/x.den*y.den:Nat):Int):=by rw [h1,Int.natCast_mul]
   rw [e3] at p1
   omega
  have e4:((x-((x.floor:Int):Rat))⁻¹).num.natAbs=x.den:=by rw [b1]; rfl
  have e5:((x-((x.floor:Int):Rat))⁻¹).den=x.num.natAbs%x.den:=by rw [h3] at b2; omega
  have z1:Sz 700 (y-((x.floor:Int):Rat))⁻¹:=⟨by rw [e1]; exact hy.2,by rw [e2]; exact Nat.le_trans (zaD (Nat.sub_le _ _)) hy.1⟩
  have z2:Sz 700 (x-((x.floor:Int):Rat))⁻¹:=⟨by rw [e4]; exact hx.2,by rw [e5]; exact Nat.le_trans (zaD (Nat.mod_le _ _)) hx.1⟩
  have zs:=Simp.sz r s3 s4 z1
  have HR:=ih s3 s4 z1 z2
  rw [e1,e2,e4,e5] at HR
  have hr:=btw_inner x.num.natAbs x.den y.num.natAbs y.den s.num.natAbs s.den x.den_pos hx.1 hx.2 hy.1 hy.2 (fun e=>h ((fl_eq_iff h0).2 e)) (fun e=>k ((fl_up_iff h0 hy0).2 e)) k2 zs.1 zs.2 HR
  have e6:(((x.floor:Int):Rat)+s⁻¹).num.natAbs=x.num.natAbs/x.den*s.num.natAbs+s.den:=by
   have e7:x.floor*s.num=((x.num.natAbs/x.den*s.num.natAbs:Nat):Int):=by rw [h1,Int.natCast_mul,show ((s.num.natAbs:Nat):Int)=s.num by omega]
   rw [n1,e7]; omega
  have e8:(((x.floor:Int):Rat)+s⁻¹).den=s.num.natAbs:=by omega
  rw [e6,e8]
  exact hr
def cmpR (x y:Rat):Int:=(x.num*y.den-y.num*x.den).sign
noncomputable def rat_Cmp.f (a0_0 a0_1 a1_0 a1_1:ByteArray):Option (Int×Int):=by
 classical exact if h:(∃ x,RR a0_0 a0_1 x)∧∃ y,RR a1_0 a1_1 y then some (cmpR h.1.choose h.2.choose,0) else some (0,3)
noncomputable def rat_Floor.f (a0_0 a0_1:ByteArray):Option (ByteArray×ByteArray×Int):=oneF (fun x=>0) (fun x=>((x.floor:Int):Rat)) a0_0 a0_1
end Go.Proofs.ZQ
end
