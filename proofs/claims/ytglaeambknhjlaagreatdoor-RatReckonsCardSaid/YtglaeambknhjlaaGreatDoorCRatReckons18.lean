/- Texts under the proof, joined by a program (prune.py): QRefOps, QPairs, QRatC, QRatD, QRatRound. -/
import Derived.Test.YtglaeambknhjlaaGreatDoorCRatReckons17
import Derived.Test.YtglaeambknhjlaaGreatDoorCRatReckons16
import Derived.Test.YtglaeambknhjlaaGreatDoorCRatReckons13
set_option linter.unusedVariables false
set_option linter.unusedSimpArgs false
set_option exponentiation.threshold 20001
set_option maxHeartbeats 8000000
set_option maxRecDepth 100000
section
namespace Go.Proofs.ZQ
open Go.RowKit Go.Proofs.ZW.Wa Go.Proofs.ZP Go.Proofs.ZW.Wb Go.Proofs.ZW.Wc
def RbAt (w:World) (b:Nat) (x y:ByteArray):Prop:=w.heap[b]? = some (.cells #[.string x,.string y] 23 (0,0))
theorem RbAt.c0 {w:World} {b:Nat} {x y:ByteArray} (h:RbAt w b x y):w.cell? ⟨b,0,none⟩=some (.string x):=(zaf h 0).trans rfl
theorem RbAt.c1 {w:World} {b:Nat} {x y:ByteArray} (h:RbAt w b x y):w.cell? ⟨b,1,none⟩=some (.string y):=(zaf h 1).trans rfl
theorem RbAt.below {w w':World} {b:Nat} {x y:ByteArray} (h:RbAt w b x y) (hb:Below w.heap.size w w'):RbAt w' b x y:=(hb.block _ (zaq h)).trans h
theorem RbAt.keep {w w':World} {b n:Nat} {x y:ByteArray} (h:RbAt w b x y) (hb:Below n w w') (hn:b<n):RbAt w' b x y:=(hb.block _ hn).trans h
theorem RbAt.new (w:World) (x y:ByteArray):RbAt (w.alloc (.cells #[.string x,.string y] 23)) w.heap.size x y:=zaA w _
theorem RbAt.alloc {w:World} {b:Nat} {x y:ByteArray} (h:RbAt w b x y) (o:Obj):RbAt (w.alloc o) b x y:=h.below (zaa (Below.refl _ _) _)
theorem zbg {w w2:World} {D:Nat} {x y:ByteArray} (f:RbAt w2 D x y) (hb:Below w.heap.size w w2) (hD:w.heap.size≤D) (u v:ByteArray):RbAt ((w2.setCell ⟨D,0,none⟩ (.string u)).setCell ⟨D,1,none⟩ (.string v)) D u v∧Below w.heap.size w ((w2.setCell ⟨D,0,none⟩ (.string u)).setCell ⟨D,1,none⟩ (.string v)):=
  ⟨(zat (zat f 0 (.string u)) 1 (.string v)).trans rfl,zag (zag hb hD) hD⟩
theorem zcU {w2:World} {D b:Nat} {x y:ByteArray} (f:RbAt w2 b x y) (h:b≠D) (u v:Value):RbAt ((w2.setCell ⟨D,0,none⟩ u).setCell ⟨D,1,none⟩ v) b x y:=by
  have k:=(Below.heap_setCell (w2.setCell ⟨D,0,none⟩ u) ⟨D,1,none⟩ v b h).trans (Below.heap_setCell w2 ⟨D,0,none⟩ u b h)
  exact k.trans f
theorem zb7 (w:World) (a b c d e f:ByteArray):RbAt (((w.alloc (.cells #[.string a,.string b] 23)).alloc (.cells #[.string c,.string d] 23)).alloc (.cells #[.string e,.string f] 23)) w.heap.size a b ∧
    RbAt (((w.alloc (.cells #[.string a,.string b] 23)).alloc (.cells #[.string c,.string d] 23)).alloc (.cells #[.string e,.string f] 23)) (w.heap.size+1) c d ∧
    RbAt (((w.alloc (.cells #[.string a,.string b] 23)).alloc (.cells #[.string c,.string d] 23)).alloc (.cells #[.string e,.string f] 23)) (w.heap.size+1+1) e f ∧
    Below w.heap.size w (((w.alloc (.cells #[.string a,.string b] 23)).alloc (.cells #[.string c,.string d] 23)).alloc (.cells #[.string e,.string f] 23)):=by
  refine ⟨((RbAt.new w a b).alloc _).alloc _,?_,?_,zaa (zaa (zaa (Below.refl _ _) _) _) _⟩
  · have h:=(RbAt.new (w.alloc (.cells #[.string a,.string b] 23)) c d).alloc (.cells #[.string e,.string f] 23)
    rw [World.size_alloc] at h
    exact h
  · have h:=RbAt.new ((w.alloc (.cells #[.string a,.string b] 23)).alloc (.cells #[.string c,.string d] 23)) e f
    rw [World.size_alloc,World.size_alloc] at h
    exact h
theorem zdq (w:World) (a b c d:ByteArray):RbAt ((w.alloc (.cells #[.string a,.string b] 23)).alloc (.cells #[.string c,.string d] 23)) w.heap.size a b ∧
    RbAt ((w.alloc (.cells #[.string a,.string b] 23)).alloc (.cells #[.string c,.string d] 23)) (w.heap.size+1) c d ∧
    Below w.heap.size w ((w.alloc (.cells #[.string a,.string b] 23)).alloc (.cells #[.string c,.string d] 23)):=by
  refine ⟨(RbAt.new w a b).alloc _,?_,zaa (zaa (Below.refl _ _) _) _⟩
  have h:=RbAt.new (w.alloc (.cells #[.string a,.string b] 23)) c d
  rw [World.size_alloc] at h
  exact h
def Ans (f:FuncId) (args:Array Value) (v:Value):Prop:=∀ W:World,Calls Tryz.prog f args W fun e w'=>e = .returned v∧Below W.heap.size W w'
theorem zax {a b:ByteArray} {x:Rat} (h:RR a b x):Ans 36 #[.agg #[.string a,.string b]] (.bool true):=fun W=>by
  obtain ⟨k,hk⟩:=(right_yes h).rounds
  exact c2_Right.calls k a b true W hk
theorem zaC {a b:ByteArray} (h:¬ ∃ x,RR a b x):Ans 36 #[.agg #[.string a,.string b]] (.bool false):=fun W=>by
  obtain ⟨k,hk⟩:=(right_no h).rounds
  exact c2_Right.calls k a b false W hk
def FrV (x:Rat):Value:=.agg #[.bool (Fr x).1,.string (Fr x).2.1,.string (Fr x).2.2]
theorem zbH {a b:ByteArray} {x:Rat} (h:RR a b x):Ans 61 #[.agg #[.string a,.string b]] (FrV x):=fun W=>by
  obtain ⟨k,hk⟩:=(read_ev a b x h).rounds
  exact c2_Read.calls k a b _ _ _ W hk
theorem zcS (x:Rat):Ans 110 #[FrV x] (.tuple #[.agg #[.string (toldR x).1,.string (toldR x).2.1],.int .i64 (toldR x).2.2]):=fun W=>by
  obtain ⟨k,hk⟩:=(told_ev x).rounds
  exact c2_Told.calls k _ _ _ _ _ _ W hk
theorem plus_ans {x y:Rat} {k:Nat} (hx:Sz k x) (hy:Sz k y) (hk:k≤1000000):Ans 60 #[FrV x,FrV y] (FrV (x+y)):=fun W=>c2_Plus.calls _ _ _ _ _ _ _ _ _ W (Plus_Fr hx hy hk).1
theorem times_ans {x y:Rat} {k:Nat} (hx:Sz k x) (hy:Sz k y) (hk:k≤1000000):Ans 64 #[FrV x,FrV y] (FrV (x*y)):=fun W=>c2_Times.calls _ _ _ _ _ _ _ _ _ W (Times_Fr hx hy hk).1
theorem minus_ans (x:Rat):Ans 62 #[FrV x] (FrV (-x)):=fun W=>c2_Minus.calls _ _ _ _ _ _ W (Minus_Fr x)
theorem over_ans {x:Rat} (h:x≠0):Ans 160 #[FrV x] (FrV x⁻¹):=fun W=>c2_Over.calls _ _ _ _ _ _ W (Over_Fr h)
theorem add_walk (a0 a1 b0 b1 : ByteArray) (x0 : Bool) (x1 x2 : ByteArray) (y0 : Bool) (y1 y2 : ByteArray) (z0 : Bool) (z1 z2 : ByteArray) (t1 t2 : ByteArray) (t3 : Int) (HA : Ans 36 #[.agg #[.string a0, .string a1]] (.bool true)) (HB : Ans 36 #[.agg #[.string b0, .string b1]] (.bool true)) (HX : Ans 61 #[.agg #[.string a0, .string a1]] (.agg #[.bool x0, .string x1, .string x2])) (HY : Ans 61 #[.agg #[.string b0, .string b1]] (.agg #[.bool y0, .string y1, .string y2])) (HO0 : Ans 60 #[.agg #[.bool x0, .string x1, .string x2], .agg #[.bool y0, .string y1, .string y2]] (.agg #[.bool z0, .string z1, .string z2])) (HT : Ans 110 #[.agg #[.bool z0, .string z1, .string z2]] (.tuple #[.agg #[.string t1, .string t2], .int .i64 t3])) : Ans 50 #[.agg #[.string a0, .string a1], .agg #[.string b0, .string b1]] (.tuple #[.agg #[.string t1, .string t2], .int .i64 t3]) := by
  intro w
  have HA:=Lib.hid HA
  have HB:=Lib.hid HB
  have HX:=Lib.hid HX
  have HY:=Lib.hid HY
  have HO0:=Lib.hid HO0
  have HT:=Lib.hid HT
  go_enter Tryz.func50,Tryz.ntmps50
  obtain ⟨fa,fb,fr,hba⟩:=zb7 w a0 a1 b0 b1 ⟨#[]⟩ ⟨#[]⟩
  go_wp2_with fail
  generalize (((w.alloc (.cells #[.string a0,.string a1] 23)).alloc (.cells #[.string b0,.string b1] 23)).alloc (.cells #[.string ⟨#[]⟩,.string ⟨#[]⟩] 23))=W0 at *
  generalize hBx:w.heap.size+1=X0 at *
  generalize hBe:X0+1=B0 at *
  have HBE:=Lib.hid (show w.heap.size≤B0∧w.heap.size<B0∧X0<B0 by omega)
  have HLE:=Lib.hid (show B0≤W0.heap.size from Nat.le_of_lt (zaq fr))
  have HQ:=Lib.hid (show ∀ W':World,Below W0.heap.size W0 W'→(fun w':World=>w'.cell? ⟨w.heap.size,0,none⟩=some (.string a0)∧w'.cell? ⟨w.heap.size,1,none⟩=some (.string a1)∧w'.cell? ⟨X0,0,none⟩=some (.string b0)∧w'.cell? ⟨X0,1,none⟩=some (.string b1)) W' from fun W' h=>⟨(fa.below h).c0,(fa.below h).c1,(fb.below h).c0,(fb.below h).c1⟩)
  have HQS:=Lib.hid (show ∀ (W':World) (u v:Value),Below W0.heap.size W0 W'→(fun w':World=>w'.cell? ⟨w.heap.size,0,none⟩=some (.string a0)∧w'.cell? ⟨w.heap.size,1,none⟩=some (.string a1)∧w'.cell? ⟨X0,0,none⟩=some (.string b0)∧w'.cell? ⟨X0,1,none⟩=some (.string b1)) ((W'.setCell ⟨B0,0,none⟩ u).setCell ⟨B0,1,none⟩ v) from fun W' u v h =>
    have k:=Below.setCell (p:=⟨B0,1,none⟩) (Below.setCell (p:=⟨B0,0,none⟩) (h.mono HLE.out) (Nat.le_refl _) u) (Nat.le_refl _) v
    ⟨(fa.keep k HBE.out.2.1).c0,(fa.keep k HBE.out.2.1).c1,(fb.keep k HBE.out.2.2).c0,(fb.keep k HBE.out.2.2).c1⟩)
  dsimp only at HQ HQS
  have HFR:=Lib.hid fr
  have HFA:=Lib.hid fa
  have HFB:=Lib.hid fb
  have HBA:=Lib.hid hba
  clear fa fr hba hBe fb hBx
  refine (HA.out _).mono ?_
  rintro e w1 ⟨rfl,hb1⟩
  have c0:=(HFB.out.below hb1).c0
  have c1:=(HFB.out.below hb1).c1
  go_wp2_with fail
  refine (HB.out _).mono ?_
  rintro e w2 ⟨rfl,hb2⟩
  have HB1:=Lib.hid (bthen hb1 hb2)
  clear c0 c1 hb1 hb2
  go_wp2_with fail
  go_region_held3 (fun w'=>w'.cell? ⟨w.heap.size,0,none⟩=some (.string a0)∧w'.cell? ⟨w.heap.size,1,none⟩=some (.string a1)∧w'.cell? ⟨X0,0,none⟩=some (.string b0)∧w'.cell? ⟨X0,1,none⟩=some (.string b1))
        (first|((with_reducible refine HQS.out _ _ _ ?_); repeat (with_reducible first|exact Below.refl _ _|exact HB1.out|apply zan|apply zab|refine bthen ?_ hbT|refine bthen ?_ hbo0|refine bthen ?_ hbY|refine bthen ?_ hbX))|((with_reducible refine HQ.out _ ?_); repeat (with_reducible first|exact Below.refl _ _|exact HB1.out|apply zan|apply zab|refine bthen ?_ hbT|refine bthen ?_ hbo0|refine bthen ?_ hbY|refine bthen ?_ hbX)))
        ((first
      | (go_simp; go_at_call 61; (with_reducible change Calls _ _ #[.agg #[.string a0,.string a1]] _ _); refine (HX.out _).mono ?_; rintro e wX ⟨rfl,hbX⟩)
      | (go_simp; go_at_call 61; (with_reducible change Calls _ _ #[.agg #[.string b0,.string b1]] _ _); refine (HY.out _).mono ?_; rintro e wY ⟨rfl,hbY⟩)
      | (go_simp; go_at_call 60; (with_reducible change Calls _ _ #[.agg #[.bool x0,.string x1,.string x2],.agg #[.bool y0,.string y1,.string y2]] _ _); refine (HO0.out _).mono ?_; rintro e wo0 ⟨rfl,hbo0⟩)
      | (go_simp; go_at_call 110; refine (HT.out _).mono ?_; rintro e wT ⟨rfl,hbT⟩; have fr5:=HFR.out.below (show Below W0.heap.size W0 wT from by repeat (with_reducible first|exact Below.refl _ _|exact HB1.out|apply zan|apply zab|refine bthen ?_ hbT|refine bthen ?_ hbo0|refine bthen ?_ hbY|refine bthen ?_ hbX)); have cB0:=fr5.c0; have cB1:=fr5.c1; have fB0:=zac fr5 0; have fB1:=zac fr5 1)))
  all_goals
        rename_i hHeld
        clear hHeld
        obtain ⟨hF,hBF⟩:=zbg fr5 (bthen HBA.out (show Below W0.heap.size W0 wT from by repeat (with_reducible first|exact Below.refl _ _|exact HB1.out|apply zan|apply zab|refine bthen ?_ hbT|refine bthen ?_ hbo0|refine bthen ?_ hbY|refine bthen ?_ hbX))) HBE.out.1 t1 t2
        have HF:=Lib.hid hF
        have HBF:=Lib.hid hBF
        clear hF hBF fr5 cB0 cB1 fB0 fB1
        go_wp2
        refine bodyPost_ret (zas rfl _ _ B0 23 #[.string t1,.string t2] (0,0) _ rfl HF.out Tryz.underlying23 rfl (by kernel_rfl)) rfl ?_
        exact ⟨rfl,HBF.out⟩
theorem add_no (a0 a1 b0 b1:ByteArray) (ra rb:Bool) (hr:(ra && rb)=false) (HA:Ans 36 #[.agg #[.string a0,.string a1]] (.bool ra)) (HB:Ans 36 #[.agg #[.string b0,.string b1]] (.bool rb)):Ans 50 #[.agg #[.string a0,.string a1],.agg #[.string b0,.string b1]] (.tuple #[.agg #[.string ⟨#[]⟩,.string ⟨#[]⟩],.int .i64 3]):=by
  intro w
  have HA:=Lib.hid HA
  have HB:=Lib.hid HB
  go_enter Tryz.func50,Tryz.ntmps50
  obtain ⟨fa,fb,fr,hba⟩:=zb7 w a0 a1 b0 b1 ⟨#[]⟩ ⟨#[]⟩
  go_wp2_with fail
  generalize (((w.alloc (.cells #[.string a0,.string a1] 23)).alloc (.cells #[.string b0,.string b1] 23)).alloc (.cells #[.string ⟨#[]⟩,.string ⟨#[]⟩] 23))=W0 at *
  generalize hBx:w.heap.size+1=X0 at *
  generalize hBe:X0+1=B0 at *
  have HBE:=Lib.hid (show w.heap.size≤B0∧w.heap.size<B0∧X0<B0 by omega)
  have HFR:=Lib.hid fr
  have HFB:=Lib.hid fb
  have HBA:=Lib.hid hba
  clear fa fr hba hBe fb hBx
  refine (HA.out _).mono ?_
  rintro e w1 ⟨rfl,hb1⟩
  cases ra
  · have HB2:=Lib.hid hb1
    clear hb1
    have fr5:=HFR.out.below HB2.out
    have cB0:=fr5.c0
    have cB1:=fr5.c1
    have fB0:=zac fr5 0
    have fB1:=zac fr5 1
    obtain ⟨hF,hBF⟩:=zbg fr5 (bthen HBA.out HB2.out) HBE.out.1 ⟨#[]⟩ ⟨#[]⟩
    have HF:=Lib.hid hF
    have HBF:=Lib.hid hBF
    clear hF hBF fr5
    go_wp2
    refine bodyPost_ret (zas rfl _ _ B0 23 #[.string ⟨#[]⟩,.string ⟨#[]⟩] (0,0) _ rfl HF.out Tryz.underlying23 rfl (by kernel_rfl)) rfl ?_
    exact ⟨rfl,HBF.out⟩
  · obtain rfl:rb=false:=by simpa using hr
    have c0:=(HFB.out.below hb1).c0
    have c1:=(HFB.out.below hb1).c1
    go_wp2_with fail
    refine (HB.out _).mono ?_
    rintro e w2 ⟨rfl,hb2⟩
    have HB2:=Lib.hid (bthen hb1 hb2)
    clear c0 c1 hb1 hb2
    have fr5:=HFR.out.below HB2.out
    have cB0:=fr5.c0
    have cB1:=fr5.c1
    have fB0:=zac fr5 0
    have fB1:=zac fr5 1
    obtain ⟨hF,hBF⟩:=zbg fr5 (bthen HBA.out HB2.out) HBE.out.1 ⟨#[]⟩ ⟨#[]⟩
    have HF:=Lib.hid hF
    have HBF:=Lib.hid hBF
    clear hF hBF fr5
    go_wp2
    refine bodyPost_ret (zas rfl _ _ B0 23 #[.string ⟨#[]⟩,.string ⟨#[]⟩] (0,0) _ rfl HF.out Tryz.underlying23 rfl (by kernel_rfl)) rfl ?_
    exact ⟨rfl,HBF.out⟩
theorem add_ans (a0 a1 b0 b1 r1 r2:ByteArray) (r3:Int) (h:rat_Add.f a0 a1 b0 b1=some (r1,r2,r3)):Ans 50 #[.agg #[.string a0,.string a1],.agg #[.string b0,.string b1]] (.tuple #[.agg #[.string r1,.string r2],.int .i64 r3]):=by
  unfold rat_Add.f at h
  by_cases ha:∃ x,RR a0 a1 x
  · obtain ⟨x,hx⟩:=ha
    by_cases hb:∃ y,RR b0 b1 y
    · obtain ⟨y,hy⟩:=hb
      rw [zbU hx hy] at h
      rw [tell_ok] at h
      have h:=Option.some.inj h
      have e1:=congrArg (fun r=>r.1) h
      have e2:=congrArg (fun r=>r.2.1) h
      have e3:=congrArg (fun r=>r.2.2) h
      subst e1; subst e2; subst e3
      exact add_walk a0 a1 b0 b1 _ _ _ _ _ _ _ _ _ _ _ _ (zax hx) (zax hy) (zbH hx) (zbH hy) (plus_ans (rr_sz hx) (rr_sz hy) (by decide)) (zcS _)
    · rw [zbG (fun e=>hb e.2)] at h
      cases h
      exact add_no a0 a1 b0 b1 true false rfl (zax hx) (zaC hb)
  · rw [zbG (fun e=>ha e.1)] at h
    cases h
    by_cases hb:∃ y,RR b0 b1 y
    · obtain ⟨y,hy⟩:=hb
      exact add_no a0 a1 b0 b1 false true rfl (zaC ha) (zax hy)
    · exact add_no a0 a1 b0 b1 false false rfl (zaC ha) (zaC hb)
theorem mul_walk (a0 a1 b0 b1 : ByteArray) (x0 : Bool) (x1 x2 : ByteArray) (y0 : Bool) (y1 y2 : ByteArray) (z0 : Bool) (z1 z2 : ByteArray) (t1 t2 : ByteArray) (t3 : Int) (HA : Ans 36 #[.agg #[.string a0, .string a1]] (.bool true)) (HB : Ans 36 #[.agg #[.string b0, .string b1]] (.bool true)) (HX : Ans 61 #[.agg #[.string a0, .string a1]] (.agg #[.bool x0, .string x1, .string x2])) (HY : Ans 61 #[.agg #[.string b0, .string b1]] (.agg #[.bool y0, .string y1, .string y2])) (HO0 : Ans 64 #[.agg #[.bool x0, .string x1, .string x2], .agg #[.bool y0, .string y1, .string y2]] (.agg #[.bool z0, .string z1, .string z2])) (HT : Ans 110 #[.agg #[.bool z0, .string z1, .string z2]] (.tuple #[.agg #[.string t1, .string t2], .int .i64 t3])) : Ans 74 #[.agg #[.string a0, .string a1], .agg #[.string b0, .string b1]] (.tuple #[.agg #[.string t1, .string t2], .int .i64 t3]) := by
  intro w
  have HA:=Lib.hid HA
  have HB:=Lib.hid HB
  have HX:=Lib.hid HX
  have HY:=Lib.hid HY
  have HO0:=Lib.hid HO0
  have HT:=Lib.hid HT
  go_enter Tryz.func74,Tryz.ntmps74
  obtain ⟨fa,fb,fr,hba⟩:=zb7 w a0 a1 b0 b1 ⟨#[]⟩ ⟨#[]⟩
  go_wp2_with fail
  generalize (((w.alloc (.cells #[.string a0,.string a1] 23)).alloc (.cells #[.string b0,.string b1] 23)).alloc (.cells #[.string ⟨#[]⟩,.string ⟨#[]⟩] 23))=W0 at *
  generalize hBx:w.heap.size+1=X0 at *
  generalize hBe:X0+1=B0 at *
  have HBE:=Lib.hid (show w.heap.size≤B0∧w.heap.size<B0∧X0<B0 by omega)
  have HLE:=Lib.hid (show B0≤W0.heap.size from Nat.le_of_lt (zaq fr))
  have HQ:=Lib.hid (show ∀ W':World,Below W0.heap.size W0 W'→(fun w':World=>w'.cell? ⟨w.heap.size,0,none⟩=some (.string a0)∧w'.cell? ⟨w.heap.size,1,none⟩=some (.string a1)∧w'.cell? ⟨X0,0,none⟩=some (.string b0)∧w'.cell? ⟨X0,1,none⟩=some (.string b1)) W' from fun W' h=>⟨(fa.below h).c0,(fa.below h).c1,(fb.below h).c0,(fb.below h).c1⟩)
  have HQS:=Lib.hid (show ∀ (W':World) (u v:Value),Below W0.heap.size W0 W'→(fun w':World=>w'.cell? ⟨w.heap.size,0,none⟩=some (.string a0)∧w'.cell? ⟨w.heap.size,1,none⟩=some (.string a1)∧w'.cell? ⟨X0,0,none⟩=some (.string b0)∧w'.cell? ⟨X0,1,none⟩=some (.string b1)) ((W'.setCell ⟨B0,0,none⟩ u).setCell ⟨B0,1,none⟩ v) from fun W' u v h =>
    have k:=Below.setCell (p:=⟨B0,1,none⟩) (Below.setCell (p:=⟨B0,0,none⟩) (h.mono HLE.out) (Nat.le_refl _) u) (Nat.le_refl _) v
    ⟨(fa.keep k HBE.out.2.1).c0,(fa.keep k HBE.out.2.1).c1,(fb.keep k HBE.out.2.2).c0,(fb.keep k HBE.out.2.2).c1⟩)
  dsimp only at HQ HQS
  have HFR:=Lib.hid fr
  have HFA:=Lib.hid fa
  have HFB:=Lib.hid fb
  have HBA:=Lib.hid hba
  clear fa fr hba hBe fb hBx
  refine (HA.out _).mono ?_
  rintro e w1 ⟨rfl,hb1⟩
  have c0:=(HFB.out.below hb1).c0
  have c1:=(HFB.out.below hb1).c1
  go_wp2_with fail
  refine (HB.out _).mono ?_
  rintro e w2 ⟨rfl,hb2⟩
  have HB1:=Lib.hid (bthen hb1 hb2)
  clear c0 c1 hb1 hb2
  go_wp2_with fail
  go_region_held3 (fun w'=>w'.cell? ⟨w.heap.size,0,none⟩=some (.string a0)∧w'.cell? ⟨w.heap.size,1,none⟩=some (.string a1)∧w'.cell? ⟨X0,0,none⟩=some (.string b0)∧w'.cell? ⟨X0,1,none⟩=some (.string b1))
        (first|((with_reducible refine HQS.out _ _ _ ?_); repeat (with_reducible first|exact Below.refl _ _|exact HB1.out|apply zan|apply zab|refine bthen ?_ hbT|refine bthen ?_ hbo0|refine bthen ?_ hbY|refine bthen ?_ hbX))|((with_reducible refine HQ.out _ ?_); repeat (with_reducible first|exact Below.refl _ _|exact HB1.out|apply zan|apply zab|refine bthen ?_ hbT|refine bthen ?_ hbo0|refine bthen ?_ hbY|refine bthen ?_ hbX)))
        ((first
      | (go_simp; go_at_call 61; (with_reducible change Calls _ _ #[.agg #[.string a0,.string a1]] _ _); refine (HX.out _).mono ?_; rintro e wX ⟨rfl,hbX⟩)
      | (go_simp; go_at_call 61; (with_reducible change Calls _ _ #[.agg #[.string b0,.string b1]] _ _); refine (HY.out _).mono ?_; rintro e wY ⟨rfl,hbY⟩)
      | (go_simp; go_at_call 64; (with_reducible change Calls _ _ #[.agg #[.bool x0,.string x1,.string x2],.agg #[.bool y0,.string y1,.string y2]] _ _); refine (HO0.out _).mono ?_; rintro e wo0 ⟨rfl,hbo0⟩)
      | (go_simp; go_at_call 110; refine (HT.out _).mono ?_; rintro e wT ⟨rfl,hbT⟩; have fr5:=HFR.out.below (show Below W0.heap.size W0 wT from by repeat (with_reducible first|exact Below.refl _ _|exact HB1.out|apply zan|apply zab|refine bthen ?_ hbT|refine bthen ?_ hbo0|refine bthen ?_ hbY|refine bthen ?_ hbX)); have cB0:=fr5.c0; have cB1:=fr5.c1; have fB0:=zac fr5 0; have fB1:=zac fr5 1)))
  all_goals
        rename_i hHeld
        clear hHeld
        obtain ⟨hF,hBF⟩:=zbg fr5 (bthen HBA.out (show Below W0.heap.size W0 wT from by repeat (with_reducible first|exact Below.refl _ _|exact HB1.out|apply zan|apply zab|refine bthen ?_ hbT|refine bthen ?_ hbo0|refine bthen ?_ hbY|refine bthen ?_ hbX))) HBE.out.1 t1 t2
        have HF:=Lib.hid hF
        have HBF:=Lib.hid hBF
        clear hF hBF fr5 cB0 cB1 fB0 fB1
        go_wp2
        refine bodyPost_ret (zas rfl _ _ B0 23 #[.string t1,.string t2] (0,0) _ rfl HF.out Tryz.underlying23 rfl (by kernel_rfl)) rfl ?_
        exact ⟨rfl,HBF.out⟩
theorem mul_no (a0 a1 b0 b1:ByteArray) (ra rb:Bool) (hr:(ra && rb)=false) (HA:Ans 36 #[.agg #[.string a0,.string a1]] (.bool ra)) (HB:Ans 36 #[.agg #[.string b0,.string b1]] (.bool rb)):Ans 74 #[.agg #[.string a0,.string a1],.agg #[.string b0,.string b1]] (.tuple #[.agg #[.string ⟨#[]⟩,.string ⟨#[]⟩],.int .i64 3]):=by
  intro w
  have HA:=Lib.hid HA
  have HB:=Lib.hid HB
  go_enter Tryz.func74,Tryz.ntmps74
  obtain ⟨fa,fb,fr,hba⟩:=zb7 w a0 a1 b0 b1 ⟨#[]⟩ ⟨#[]⟩
  go_wp2_with fail
  generalize (((w.alloc (.cells #[.string a0,.string a1] 23)).alloc (.cells #[.string b0,.string b1] 23)).alloc (.cells #[.string ⟨#[]⟩,.string ⟨#[]⟩] 23))=W0 at *
  generalize hBx:w.heap.size+1=X0 at *
  generalize hBe:X0+1=B0 at *
  have HBE:=Lib.hid (show w.heap.size≤B0∧w.heap.size<B0∧X0<B0 by omega)
  have HFR:=Lib.hid fr
  have HFB:=Lib.hid fb
  have HBA:=Lib.hid hba
  clear fa fr hba hBe fb hBx
  refine (HA.out _).mono ?_
  rintro e w1 ⟨rfl,hb1⟩
  cases ra
  · have HB2:=Lib.hid hb1
    clear hb1
    have fr5:=HFR.out.below HB2.out
    have cB0:=fr5.c0
    have cB1:=fr5.c1
    have fB0:=zac fr5 0
    have fB1:=zac fr5 1
    obtain ⟨hF,hBF⟩:=zbg fr5 (bthen HBA.out HB2.out) HBE.out.1 ⟨#[]⟩ ⟨#[]⟩
    have HF:=Lib.hid hF
    have HBF:=Lib.hid hBF
    clear hF hBF fr5
    go_wp2
    refine bodyPost_ret (zas rfl _ _ B0 23 #[.string ⟨#[]⟩,.string ⟨#[]⟩] (0,0) _ rfl HF.out Tryz.underlying23 rfl (by kernel_rfl)) rfl ?_
    exact ⟨rfl,HBF.out⟩
  · obtain rfl:rb=false:=by simpa using hr
    have c0:=(HFB.out.below hb1).c0
    have c1:=(HFB.out.below hb1).c1
    go_wp2_with fail
    refine (HB.out _).mono ?_
    rintro e w2 ⟨rfl,hb2⟩
    have HB2:=Lib.hid (bthen hb1 hb2)
    clear c0 c1 hb1 hb2
    have fr5:=HFR.out.below HB2.out
    have cB0:=fr5.c0
    have cB1:=fr5.c1
    have fB0:=zac fr5 0
    have fB1:=zac fr5 1
    obtain ⟨hF,hBF⟩:=zbg fr5 (bthen HBA.out HB2.out) HBE.out.1 ⟨#[]⟩ ⟨#[]⟩
    have HF:=Lib.hid hF
    have HBF:=Lib.hid hBF
    clear hF hBF fr5
    go_wp2
    refine bodyPost_ret (zas rfl _ _ B0 23 #[.string ⟨#[]⟩,.string ⟨#[]⟩] (0,0) _ rfl HF.out Tryz.underlying23 rfl (by kernel_rfl)) rfl ?_
    exact ⟨rfl,HBF.out⟩
theorem mul_ans (a0 a1 b0 b1 r1 r2:ByteArray) (r3:Int) (h:rat_Mul.f a0 a1 b0 b1=some (r1,r2,r3)):Ans 74 #[.agg #[.string a0,.string a1],.agg #[.string b0,.string b1]] (.tuple #[.agg #[.string r1,.string r2],.int .i64 r3]):=by
  unfold rat_Mul.f at h
  by_cases ha:∃ x,RR a0 a1 x
  · obtain ⟨x,hx⟩:=ha
    by_cases hb:∃ y,RR b0 b1 y
    · obtain ⟨y,hy⟩:=hb
      rw [zbU hx hy] at h
      rw [tell_ok] at h
      have h:=Option.some.inj h
      have e1:=congrArg (fun r=>r.1) h
      have e2:=congrArg (fun r=>r.2.1) h
      have e3:=congrArg (fun r=>r.2.2) h
      subst e1; subst e2; subst e3
      exact mul_walk a0 a1 b0 b1 _ _ _ _ _ _ _ _ _ _ _ _ (zax hx) (zax hy) (zbH hx) (zbH hy) (times_ans (rr_sz hx) (rr_sz hy) (by decide)) (zcS _)
    · rw [zbG (fun e=>hb e.2)] at h
      cases h
      exact mul_no a0 a1 b0 b1 true false rfl (zax hx) (zaC hb)
  · rw [zbG (fun e=>ha e.1)] at h
    cases h
    by_cases hb:∃ y,RR b0 b1 y
    · obtain ⟨y,hy⟩:=hb
      exact mul_no a0 a1 b0 b1 false true rfl (zaC ha) (zax hy)
    · exact mul_no a0 a1 b0 b1 false false rfl (zaC ha) (zaC hb)
theorem sub_walk (a0 a1 b0 b1 : ByteArray) (m0 : Bool) (m1 m2 : ByteArray) (x0 : Bool) (x1 x2 : ByteArray) (y0 : Bool) (y1 y2 : ByteArray) (z0 : Bool) (z1 z2 : ByteArray) (t1 t2 : ByteArray) (t3 : Int) (HA : Ans 36 #[.agg #[.string a0, .string a1]] (.bool true)) (HB : Ans 36 #[.agg #[.string b0, .string b1]] (.bool true)) (HX : Ans 61 #[.agg #[.string a0, .string a1]] (.agg #[.bool x0, .string x1, .string x2])) (HY : Ans 61 #[.agg #[.string b0, .string b1]] (.agg #[.bool y0, .string y1, .string y2])) (HO0 : Ans 62 #[.agg #[.bool y0, .string y1, .string y2]] (.agg #[.bool m0, .string m1, .string m2])) (HO1 : Ans 60 #[.agg #[.bool x0, .string x1, .string x2], .agg #[.bool m0, .string m1, .string m2]] (.agg #[.bool z0, .string z1, .string z2])) (HT : Ans 110 #[.agg #[.bool z0, .string z1, .string z2]] (.tuple #[.agg #[.string t1, .string t2], .int .i64 t3])) : Ans 73 #[.agg #[.string a0, .string a1], .agg #[.string b0, .string b1]] (.tuple #[.agg #[.string t1, .string t2], .int .i64 t3]) := by
  intro w
  have HA:=Lib.hid HA
  have HB:=Lib.hid HB
  have HX:=Lib.hid HX
  have HY:=Lib.hid HY
  have HO0:=Lib.hid HO0
  have HO1:=Lib.hid HO1
  have HT:=Lib.hid HT
  go_enter Tryz.func73,Tryz.ntmps73
  obtain ⟨fa,fb,fr,hba⟩:=zb7 w a0 a1 b0 b1 ⟨#[]⟩ ⟨#[]⟩
  go_wp2_with fail
  generalize (((w.alloc (.cells #[.string a0,.string a1] 23)).alloc (.cells #[.string b0,.string b1] 23)).alloc (.cells #[.string ⟨#[]⟩,.string ⟨#[]⟩] 23))=W0 at *
  generalize hBx:w.heap.size+1=X0 at *
  generalize hBe:X0+1=B0 at *
  have HBE:=Lib.hid (show w.heap.size≤B0∧w.heap.size<B0∧X0<B0 by omega)
  have HLE:=Lib.hid (show B0≤W0.heap.size from Nat.le_of_lt (zaq fr))
  have HQ:=Lib.hid (show ∀ W':World,Below W0.heap.size W0 W'→(fun w':World=>w'.cell? ⟨w.heap.size,0,none⟩=some (.string a0)∧w'.cell? ⟨w.heap.size,1,none⟩=some (.string a1)∧w'.cell? ⟨X0,0,none⟩=some (.string b0)∧w'.cell? ⟨X0,1,none⟩=some (.string b1)) W' from fun W' h=>⟨(fa.below h).c0,(fa.below h).c1,(fb.below h).c0,(fb.below h).c1⟩)
  have HQS:=Lib.hid (show ∀ (W':World) (u v:Value),Below W0.heap.size W0 W'→(fun w':World=>w'.cell? ⟨w.heap.size,0,none⟩=some (.string a0)∧w'.cell? ⟨w.heap.size,1,none⟩=some (.string a1)∧w'.cell? ⟨X0,0,none⟩=some (.string b0)∧w'.cell? ⟨X0,1,none⟩=some (.string b1)) ((W'.setCell ⟨B0,0,none⟩ u).setCell ⟨B0,1,none⟩ v) from fun W' u v h =>
    have k:=Below.setCell (p:=⟨B0,1,none⟩) (Below.setCell (p:=⟨B0,0,none⟩) (h.mono HLE.out) (Nat.le_refl _) u) (Nat.le_refl _) v
    ⟨(fa.keep k HBE.out.2.1).c0,(fa.keep k HBE.out.2.1).c1,(fb.keep k HBE.out.2.2).c0,(fb.keep k HBE.out.2.2).c1⟩)
  dsimp only at HQ HQS
  have HFR:=Lib.hid fr
  have HFA:=Lib.hid fa
  have HFB:=Lib.hid fb
  have HBA:=Lib.hid hba
  clear fa fr hba hBe fb hBx
  refine (HA.out _).mono ?_
  rintro e w1 ⟨rfl,hb1⟩
  have c0:=(HFB.out.below hb1).c0
  have c1:=(HFB.out.below hb1).c1
  go_wp2_with fail
  refine (HB.out _).mono ?_
  rintro e w2 ⟨rfl,hb2⟩
  have HB1:=Lib.hid (bthen hb1 hb2)
  clear c0 c1 hb1 hb2
  go_wp2_with fail
  go_region_held3 (fun w'=>w'.cell? ⟨w.heap.size,0,none⟩=some (.string a0)∧w'.cell? ⟨w.heap.size,1,none⟩=some (.string a1)∧w'.cell? ⟨X0,0,none⟩=some (.string b0)∧w'.cell? ⟨X0,1,none⟩=some (.string b1))
        (first|((with_reducible refine HQS.out _ _ _ ?_); repeat (with_reducible first|exact Below.refl _ _|exact HB1.out|apply zan|apply zab|refine bthen ?_ hbT|refine bthen ?_ hbo1|refine bthen ?_ hbo0|refine bthen ?_ hbY|refine bthen ?_ hbX))|((with_reducible refine HQ.out _ ?_); repeat (with_reducible first|exact Below.refl _ _|exact HB1.out|apply zan|apply zab|refine bthen ?_ hbT|refine bthen ?_ hbo1|refine bthen ?_ hbo0|refine bthen ?_ hbY|refine bthen ?_ hbX)))
        ((first
      | (go_simp; go_at_call 61; (with_reducible change Calls _ _ #[.agg #[.string a0,.string a1]] _ _); refine (HX.out _).mono ?_; rintro e wX ⟨rfl,hbX⟩)
      | (go_simp; go_at_call 61; (with_reducible change Calls _ _ #[.agg #[.string b0,.string b1]] _ _); refine (HY.out _).mono ?_; rintro e wY ⟨rfl,hbY⟩)
      | (go_simp; go_at_call 62; (with_reducible change Calls _ _ #[.agg #[.bool y0,.string y1,.string y2]] _ _); refine (HO0.out _).mono ?_; rintro e wo0 ⟨rfl,hbo0⟩)
      | (go_simp; go_at_call 60; (with_reducible change Calls _ _ #[.agg #[.bool x0,.string x1,.string x2],.agg #[.bool m0,.string m1,.string m2]] _ _); refine (HO1.out _).mono ?_; rintro e wo1 ⟨rfl,hbo1⟩)
      | (go_simp; go_at_call 110; refine (HT.out _).mono ?_; rintro e wT ⟨rfl,hbT⟩; have fr5:=HFR.out.below (show Below W0.heap.size W0 wT from by repeat (with_reducible first|exact Below.refl _ _|exact HB1.out|apply zan|apply zab|refine bthen ?_ hbT|refine bthen ?_ hbo1|refine bthen ?_ hbo0|refine bthen ?_ hbY|refine bthen ?_ hbX)); have cB0:=fr5.c0; have cB1:=fr5.c1; have fB0:=zac fr5 0; have fB1:=zac fr5 1)))
  all_goals
        rename_i hHeld
        clear hHeld
        obtain ⟨hF,hBF⟩:=zbg fr5 (bthen HBA.out (show Below W0.heap.size W0 wT from by repeat (with_reducible first|exact Below.refl _ _|exact HB1.out|apply zan|apply zab|refine bthen ?_ hbT|refine bthen ?_ hbo1|refine bthen ?_ hbo0|refine bthen ?_ hbY|refine bthen ?_ hbX))) HBE.out.1 t1 t2
        have HF:=Lib.hid hF
        have HBF:=Lib.hid hBF
        clear hF hBF fr5 cB0 cB1 fB0 fB1
        go_wp2
        refine bodyPost_ret (zas rfl _ _ B0 23 #[.string t1,.string t2] (0,0) _ rfl HF.out Tryz.underlying23 rfl (by kernel_rfl)) rfl ?_
        exact ⟨rfl,HBF.out⟩
theorem sub_no (a0 a1 b0 b1:ByteArray) (ra rb:Bool) (hr:(ra && rb)=false) (HA:Ans 36 #[.agg #[.string a0,.string a1]] (.bool ra)) (HB:Ans 36 #[.agg #[.string b0,.string b1]] (.bool rb)):Ans 73 #[.agg #[.string a0,.string a1],.agg #[.string b0,.string b1]] (.tuple #[.agg #[.string ⟨#[]⟩,.string ⟨#[]⟩],.int .i64 3]):=by
  intro w
  have HA:=Lib.hid HA
  have HB:=Lib.hid HB
  go_enter Tryz.func73,Tryz.ntmps73
  obtain ⟨fa,fb,fr,hba⟩:=zb7 w a0 a1 b0 b1 ⟨#[]⟩ ⟨#[]⟩
  go_wp2_with fail
  generalize (((w.alloc (.cells #[.string a0,.string a1] 23)).alloc (.cells #[.string b0,.string b1] 23)).alloc (.cells #[.string ⟨#[]⟩,.string ⟨#[]⟩] 23))=W0 at *
  generalize hBx:w.heap.size+1=X0 at *
  generalize hBe:X0+1=B0 at *
  have HBE:=Lib.hid (show w.heap.size≤B0∧w.heap.size<B0∧X0<B0 by omega)
  have HFR:=Lib.hid fr
  have HFB:=Lib.hid fb
  have HBA:=Lib.hid hba
  clear fa fr hba hBe fb hBx
  refine (HA.out _).mono ?_
  rintro e w1 ⟨rfl,hb1⟩
  cases ra
  · have HB2:=Lib.hid hb1
    clear hb1
    have fr5:=HFR.out.below HB2.out
    have cB0:=fr5.c0
    have cB1:=fr5.c1
    have fB0:=zac fr5 0
    have fB1:=zac fr5 1
    obtain ⟨hF,hBF⟩:=zbg fr5 (bthen HBA.out HB2.out) HBE.out.1 ⟨#[]⟩ ⟨#[]⟩
    have HF:=Lib.hid hF
    have HBF:=Lib.hid hBF
    clear hF hBF fr5
    go_wp2
    refine bodyPost_ret (zas rfl _ _ B0 23 #[.string ⟨#[]⟩,.string ⟨#[]⟩] (0,0) _ rfl HF.out Tryz.underlying23 rfl (by kernel_rfl)) rfl ?_
    exact ⟨rfl,HBF.out⟩
  · obtain rfl:rb=false:=by simpa using hr
    have c0:=(HFB.out.below hb1).c0
    have c1:=(HFB.out.below hb1).c1
    go_wp2_with fail
    refine (HB.out _).mono ?_
    rintro e w2 ⟨rfl,hb2⟩
    have HB2:=Lib.hid (bthen hb1 hb2)
    clear c0 c1 hb1 hb2
    have fr5:=HFR.out.below HB2.out
    have cB0:=fr5.c0
    have cB1:=fr5.c1
    have fB0:=zac fr5 0
    have fB1:=zac fr5 1
    obtain ⟨hF,hBF⟩:=zbg fr5 (bthen HBA.out HB2.out) HBE.out.1 ⟨#[]⟩ ⟨#[]⟩
    have HF:=Lib.hid hF
    have HBF:=Lib.hid hBF
    clear hF hBF fr5
    go_wp2
    refine bodyPost_ret (zas rfl _ _ B0 23 #[.string ⟨#[]⟩,.string ⟨#[]⟩] (0,0) _ rfl HF.out Tryz.underlying23 rfl (by kernel_rfl)) rfl ?_
    exact ⟨rfl,HBF.out⟩
theorem sub_ans (a0 a1 b0 b1 r1 r2:ByteArray) (r3:Int) (h:rat_Sub.f a0 a1 b0 b1=some (r1,r2,r3)):Ans 73 #[.agg #[.string a0,.string a1],.agg #[.string b0,.string b1]] (.tuple #[.agg #[.string r1,.string r2],.int .i64 r3]):=by
  unfold rat_Sub.f at h
  by_cases ha:∃ x,RR a0 a1 x
  · obtain ⟨x,hx⟩:=ha
    by_cases hb:∃ y,RR b0 b1 y
    · obtain ⟨y,hy⟩:=hb
      rw [zbU hx hy] at h
      rw [tell_ok] at h
      have h:=Option.some.inj h
      have e1:=congrArg (fun r=>r.1) h
      have e2:=congrArg (fun r=>r.2.1) h
      have e3:=congrArg (fun r=>r.2.2) h
      subst e1; subst e2; subst e3
      rw [Rat.sub_eq_add_neg]
      exact sub_walk a0 a1 b0 b1 _ _ _ _ _ _ _ _ _ _ _ _ _ _ _ (zax hx) (zax hy) (zbH hx) (zbH hy) (minus_ans _) (plus_ans (rr_sz hx) (neg_sz (rr_sz hy)) (by decide)) (zcS _)
    · rw [zbG (fun e=>hb e.2)] at h
      cases h
      exact sub_no a0 a1 b0 b1 true false rfl (zax hx) (zaC hb)
  · rw [zbG (fun e=>ha e.1)] at h
    cases h
    by_cases hb:∃ y,RR b0 b1 y
    · obtain ⟨y,hy⟩:=hb
      exact sub_no a0 a1 b0 b1 false true rfl (zaC ha) (zax hy)
    · exact sub_no a0 a1 b0 b1 false false rfl (zaC ha) (zaC hb)
theorem quo_walk (a0 a1 b0 b1 : ByteArray) (m0 : Bool) (m1 m2 : ByteArray) (x0 : Bool) (x1 x2 : ByteArray) (y0 : Bool) (y1 y2 : ByteArray) (z0 : Bool) (z1 z2 : ByteArray) (t1 t2 : ByteArray) (t3 : Int) (hz : b0.toList ≠ ([48] : List UInt8)) (HA : Ans 36 #[.agg #[.string a0, .string a1]] (.bool true)) (HB : Ans 36 #[.agg #[.string b0, .string b1]] (.bool true)) (HX : Ans 61 #[.agg #[.string a0, .string a1]] (.agg #[.bool x0, .string x1, .string x2])) (HY : Ans 61 #[.agg #[.string b0, .string b1]] (.agg #[.bool y0, .string y1, .string y2])) (HO0 : Ans 160 #[.agg #[.bool y0, .string y1, .string y2]] (.agg #[.bool m0, .string m1, .string m2])) (HO1 : Ans 64 #[.agg #[.bool x0, .string x1, .string x2], .agg #[.bool m0, .string m1, .string m2]] (.agg #[.bool z0, .string z1, .string z2])) (HT : Ans 110 #[.agg #[.bool z0, .string z1, .string z2]] (.tuple #[.agg #[.string t1, .string t2], .int .i64 t3])) : Ans 75 #[.agg #[.string a0, .string a1], .agg #[.string b0, .string b1]] (.tuple #[.agg #[.string t1, .string t2], .int .i64 t3]) := by
  intro w
  have HA:=Lib.hid HA
  have HB:=Lib.hid HB
  have HX:=Lib.hid HX
  have HY:=Lib.hid HY
  have HO0:=Lib.hid HO0
  have HO1:=Lib.hid HO1
  have HT:=Lib.hid HT
  have hzb:(b0.toList == ([48]:List UInt8))=false:=by simpa using hz
  go_enter Tryz.func75,Tryz.ntmps75
  obtain ⟨fa,fb,fr,hba⟩:=zb7 w a0 a1 b0 b1 ⟨#[]⟩ ⟨#[]⟩
  go_wp2_with fail
  generalize (((w.alloc (.cells #[.string a0,.string a1] 23)).alloc (.cells #[.string b0,.string b1] 23)).alloc (.cells #[.string ⟨#[]⟩,.string ⟨#[]⟩] 23))=W0 at *
  generalize hBx:w.heap.size+1=X0 at *
  generalize hBe:X0+1=B0 at *
  have HBE:=Lib.hid (show w.heap.size≤B0∧w.heap.size<B0∧X0<B0 by omega)
  have HLE:=Lib.hid (show B0≤W0.heap.size from Nat.le_of_lt (zaq fr))
  have HQ:=Lib.hid (show ∀ W':World,Below W0.heap.size W0 W'→(fun w':World=>w'.cell? ⟨w.heap.size,0,none⟩=some (.string a0)∧w'.cell? ⟨w.heap.size,1,none⟩=some (.string a1)∧w'.cell? ⟨X0,0,none⟩=some (.string b0)∧w'.cell? ⟨X0,1,none⟩=some (.string b1)) W' from fun W' h=>⟨(fa.below h).c0,(fa.below h).c1,(fb.below h).c0,(fb.below h).c1⟩)
  have HQS:=Lib.hid (show ∀ (W':World) (u v:Value),Below W0.heap.size W0 W'→(fun w':World=>w'.cell? ⟨w.heap.size,0,none⟩=some (.string a0)∧w'.cell? ⟨w.heap.size,1,none⟩=some (.string a1)∧w'.cell? ⟨X0,0,none⟩=some (.string b0)∧w'.cell? ⟨X0,1,none⟩=some (.string b1)) ((W'.setCell ⟨B0,0,none⟩ u).setCell ⟨B0,1,none⟩ v) from fun W' u v h =>
    have k:=Below.setCell (p:=⟨B0,1,none⟩) (Below.setCell (p:=⟨B0,0,none⟩) (h.mono HLE.out) (Nat.le_refl _) u) (Nat.le_refl _) v
    ⟨(fa.keep k HBE.out.2.1).c0,(fa.keep k HBE.out.2.1).c1,(fb.keep k HBE.out.2.2).c0,(fb.keep k HBE.out.2.2).c1⟩)
  dsimp only at HQ HQS
  have HFR:=Lib.hid fr
  have HFA:=Lib.hid fa
  have HFB:=Lib.hid fb
  have HBA:=Lib.hid hba
  clear fa fr hba hBe fb hBx
  refine (HA.out _).mono ?_
  rintro e w1 ⟨rfl,hb1⟩
  have c0:=(HFB.out.below hb1).c0
  have c1:=(HFB.out.below hb1).c1
  go_wp2_with fail
  refine (HB.out _).mono ?_
  rintro e w2 ⟨rfl,hb2⟩
  have HB1:=Lib.hid (bthen hb1 hb2)
  clear c0 c1 hb1 hb2
  have cz:=(HFB.out.below HB1.out).c0
  go_wp2_with fail
  clear cz
  go_region_held3 (fun w'=>w'.cell? ⟨w.heap.size,0,none⟩=some (.string a0)∧w'.cell? ⟨w.heap.size,1,none⟩=some (.string a1)∧w'.cell? ⟨X0,0,none⟩=some (.string b0)∧w'.cell? ⟨X0,1,none⟩=some (.string b1))
        (first|((with_reducible refine HQS.out _ _ _ ?_); repeat (with_reducible first|exact Below.refl _ _|exact HB1.out|apply zan|apply zab|refine bthen ?_ hbT|refine bthen ?_ hbo1|refine bthen ?_ hbo0|refine bthen ?_ hbY|refine bthen ?_ hbX))|((with_reducible refine HQ.out _ ?_); repeat (with_reducible first|exact Below.refl _ _|exact HB1.out|apply zan|apply zab|refine bthen ?_ hbT|refine bthen ?_ hbo1|refine bthen ?_ hbo0|refine bthen ?_ hbY|refine bthen ?_ hbX)))
        ((first
      | (go_simp; go_at_call 61; (with_reducible change Calls _ _ #[.agg #[.string a0,.string a1]] _ _); refine (HX.out _).mono ?_; rintro e wX ⟨rfl,hbX⟩)
      | (go_simp; go_at_call 61; (with_reducible change Calls _ _ #[.agg #[.string b0,.string b1]] _ _); refine (HY.out _).mono ?_; rintro e wY ⟨rfl,hbY⟩)
      | (go_simp; go_at_call 160; (with_reducible change Calls _ _ #[.agg #[.bool y0,.string y1,.string y2]] _ _); refine (HO0.out _).mono ?_; rintro e wo0 ⟨rfl,hbo0⟩)
      | (go_simp; go_at_call 64; (with_reducible change Calls _ _ #[.agg #[.bool x0,.string x1,.string x2],.agg #[.bool m0,.string m1,.string m2]] _ _); refine (HO1.out _).mono ?_; rintro e wo1 ⟨rfl,hbo1⟩)
      | (go_simp; go_at_call 110; refine (HT.out _).mono ?_; rintro e wT ⟨rfl,hbT⟩; have fr5:=HFR.out.below (show Below W0.heap.size W0 wT from by repeat (with_reducible first|exact Below.refl _ _|exact HB1.out|apply zan|apply zab|refine bthen ?_ hbT|refine bthen ?_ hbo1|refine bthen ?_ hbo0|refine bthen ?_ hbY|refine bthen ?_ hbX)); have cB0:=fr5.c0; have cB1:=fr5.c1; have fB0:=zac fr5 0; have fB1:=zac fr5 1)))
  all_goals
        rename_i hHeld
        clear hHeld
        obtain ⟨hF,hBF⟩:=zbg fr5 (bthen HBA.out (show Below W0.heap.size W0 wT from by repeat (with_reducible first|exact Below.refl _ _|exact HB1.out|apply zan|apply zab|refine bthen ?_ hbT|refine bthen ?_ hbo1|refine bthen ?_ hbo0|refine bthen ?_ hbY|refine bthen ?_ hbX))) HBE.out.1 t1 t2
        have HF:=Lib.hid hF
        have HBF:=Lib.hid hBF
        clear hF hBF fr5 cB0 cB1 fB0 fB1
        go_wp2
        refine bodyPost_ret (zas rfl _ _ B0 23 #[.string t1,.string t2] (0,0) _ rfl HF.out Tryz.underlying23 rfl (by kernel_rfl)) rfl ?_
        exact ⟨rfl,HBF.out⟩
theorem quo_no (a0 a1 b0 b1:ByteArray) (ra rb:Bool) (hr:(ra && rb)=false) (HA:Ans 36 #[.agg #[.string a0,.string a1]] (.bool ra)) (HB:Ans 36 #[.agg #[.string b0,.string b1]] (.bool rb)):Ans 75 #[.agg #[.string a0,.string a1],.agg #[.string b0,.string b1]] (.tuple #[.agg #[.string ⟨#[]⟩,.string ⟨#[]⟩],.int .i64 3]):=by
  intro w
  have HA:=Lib.hid HA
  have HB:=Lib.hid HB
  go_enter Tryz.func75,Tryz.ntmps75
  obtain ⟨fa,fb,fr,hba⟩:=zb7 w a0 a1 b0 b1 ⟨#[]⟩ ⟨#[]⟩
  go_wp2_with fail
  generalize (((w.alloc (.cells #[.string a0,.string a1] 23)).alloc (.cells #[.string b0,.string b1] 23)).alloc (.cells #[.string ⟨#[]⟩,.string ⟨#[]⟩] 23))=W0 at *
  generalize hBx:w.heap.size+1=X0 at *
  generalize hBe:X0+1=B0 at *
  have HBE:=Lib.hid (show w.heap.size≤B0∧w.heap.size<B0∧X0<B0 by omega)
  have HFR:=Lib.hid fr
  have HFB:=Lib.hid fb
  have HBA:=Lib.hid hba
  clear fa fr hba hBe fb hBx
  refine (HA.out _).mono ?_
  rintro e w1 ⟨rfl,hb1⟩
  cases ra
  · have HB2:=Lib.hid hb1
    clear hb1
    have fr5:=HFR.out.below HB2.out
    have cB0:=fr5.c0
    have cB1:=fr5.c1
    have fB0:=zac fr5 0
    have fB1:=zac fr5 1
    obtain ⟨hF,hBF⟩:=zbg fr5 (bthen HBA.out HB2.out) HBE.out.1 ⟨#[]⟩ ⟨#[]⟩
    have HF:=Lib.hid hF
    have HBF:=Lib.hid hBF
    clear hF hBF fr5
    go_wp2
    refine bodyPost_ret (zas rfl _ _ B0 23 #[.string ⟨#[]⟩,.string ⟨#[]⟩] (0,0) _ rfl HF.out Tryz.underlying23 rfl (by kernel_rfl)) rfl ?_
    exact ⟨rfl,HBF.out⟩
  · obtain rfl:rb=false:=by simpa using hr
    have c0:=(HFB.out.below hb1).c0
    have c1:=(HFB.out.below hb1).c1
    go_wp2_with fail
    refine (HB.out _).mono ?_
    rintro e w2 ⟨rfl,hb2⟩
    have HB2:=Lib.hid (bthen hb1 hb2)
    clear c0 c1 hb1 hb2
    have fr5:=HFR.out.below HB2.out
    have cB0:=fr5.c0
    have cB1:=fr5.c1
    have fB0:=zac fr5 0
    have fB1:=zac fr5 1
    obtain ⟨hF,hBF⟩:=zbg fr5 (bthen HBA.out HB2.out) HBE.out.1 ⟨#[]⟩ ⟨#[]⟩
    have HF:=Lib.hid hF
    have HBF:=Lib.hid hBF
    clear hF hBF fr5
    go_wp2
    refine bodyPost_ret (zas rfl _ _ B0 23 #[.string ⟨#[]⟩,.string ⟨#[]⟩] (0,0) _ rfl HF.out Tryz.underlying23 rfl (by kernel_rfl)) rfl ?_
    exact ⟨rfl,HBF.out⟩
theorem quo_zero (a0 a1 b0 b1:ByteArray) (hz:b0.toList=([48]:List UInt8)) (HA:Ans 36 #[.agg #[.string a0,.string a1]] (.bool true)) (HB:Ans 36 #[.agg #[.string b0,.string b1]] (.bool true)):Ans 75 #[.agg #[.string a0,.string a1],.agg #[.string b0,.string b1]] (.tuple #[.agg #[.string ⟨#[]⟩,.string ⟨#[]⟩],.int .i64 8]):=by
  intro w
  have HA:=Lib.hid HA
  have HB:=Lib.hid HB
  have hzb:(b0.toList == ([48]:List UInt8))=true:=by simpa using hz
  clear hz
  go_enter Tryz.func75,Tryz.ntmps75
  obtain ⟨fa,fb,fr,hba⟩:=zb7 w a0 a1 b0 b1 ⟨#[]⟩ ⟨#[]⟩
  go_wp2_with fail
  generalize (((w.alloc (.cells #[.string a0,.string a1] 23)).alloc (.cells #[.string b0,.string b1] 23)).alloc (.cells #[.string ⟨#[]⟩,.string ⟨#[]⟩] 23))=W0 at *
  generalize hBx:w.heap.size+1=X0 at *
  generalize hBe:X0+1=B0 at *
  have HBE:=Lib.hid (show w.heap.size≤B0∧w.heap.size<B0∧X0<B0 by omega)
  have HFR:=Lib.hid fr
  have HFB:=Lib.hid fb
  have HBA:=Lib.hid hba
  clear fa fr hba hBe fb hBx
  refine (HA.out _).mono ?_
  rintro e w1 ⟨rfl,hb1⟩
  have c0:=(HFB.out.below hb1).c0
  have c1:=(HFB.out.below hb1).c1
  go_wp2_with fail
  refine (HB.out _).mono ?_
  rintro e w2 ⟨rfl,hb2⟩
  have hb3:=bthen hb1 hb2
  clear c0 c1 hb1 hb2
  have cz:=(HFB.out.below hb3).c0
  have HB2:=Lib.hid hb3
  clear hb3
  have fr5:=HFR.out.below HB2.out
  have cB0:=fr5.c0
  have cB1:=fr5.c1
  have fB0:=zac fr5 0
  have fB1:=zac fr5 1
  obtain ⟨hF,hBF⟩:=zbg fr5 (bthen HBA.out HB2.out) HBE.out.1 ⟨#[]⟩ ⟨#[]⟩
  have HF:=Lib.hid hF
  have HBF:=Lib.hid hBF
  clear hF hBF fr5
  go_wp2
  refine bodyPost_ret (zas rfl _ _ B0 23 #[.string ⟨#[]⟩,.string ⟨#[]⟩] (0,0) _ rfl HF.out Tryz.underlying23 rfl (by kernel_rfl)) rfl ?_
  exact ⟨rfl,HBF.out⟩
theorem quo_ans (a0 a1 b0 b1 r1 r2 : ByteArray) (r3 : Int) (h : rat_Quo.f a0 a1 b0 b1 = some (r1, r2, r3)) : Ans 75 #[.agg #[.string a0, .string a1], .agg #[.string b0, .string b1]] (.tuple #[.agg #[.string r1, .string r2], .int .i64 r3]) := by
  unfold rat_Quo.f at h
  by_cases ha:∃ x,RR a0 a1 x
  · obtain ⟨x,hx⟩:=ha
    by_cases hb:∃ y,RR b0 b1 y
    · obtain ⟨y,hy⟩:=hb
      rw [zbU hx hy] at h
      by_cases h0:y=0
      · rw [if_pos h0] at h
        cases h
        exact quo_zero a0 a1 b0 b1 ((rr_zero hy).2 h0) (zax hx) (zax hy)
      · rw [if_neg h0,tell_ok] at h
        have h:=Option.some.inj h
        have e1:=congrArg (fun r=>r.1) h
        have e2:=congrArg (fun r=>r.2.1) h
        have e3:=congrArg (fun r=>r.2.2) h
        subst e1; subst e2; subst e3
        rw [Rat.div_def]
        exact quo_walk a0 a1 b0 b1 _ _ _ _ _ _ _ _ _ _ _ _ _ _ _ (fun e=>h0 ((rr_zero hy).1 e)) (zax hx) (zax hy) (zbH hx) (zbH hy) (over_ans h0) (times_ans (rr_sz hx) (inv_sz h0 (rr_sz hy)) (by decide)) (zcS _)
    · rw [zbG (fun e=>hb e.2)] at h
      cases h
      exact quo_no a0 a1 b0 b1 true false rfl (zax hx) (zaC hb)
  · rw [zbG (fun e=>ha e.1)] at h
    cases h
    by_cases hb:∃ y,RR b0 b1 y
    · obtain ⟨y,hy⟩:=hb
      exact quo_no a0 a1 b0 b1 false true rfl (zaC ha) (zax hy)
    · exact quo_no a0 a1 b0 b1 false false rfl (zaC ha) (zaC hb)
theorem neg_walk (a0 a1:ByteArray) (x0:Bool) (x1 x2:ByteArray) (z0:Bool) (z1 z2:ByteArray) (t1 t2:ByteArray) (t3:Int) (HA:Ans 36 #[.agg #[.string a0,.string a1]] (.bool true)) (HX:Ans 61 #[.agg #[.string a0,.string a1]] (.agg #[.bool x0,.string x1,.string x2])) (HO0:Ans 62 #[.agg #[.bool x0,.string x1,.string x2]] (.agg #[.bool z0,.string z1,.string z2])) (HT:Ans 110 #[.agg #[.bool z0,.string z1,.string z2]] (.tuple #[.agg #[.string t1,.string t2],.int .i64 t3])):Ans 76 #[.agg #[.string a0,.string a1]] (.tuple #[.agg #[.string t1,.string t2],.int .i64 t3]):=by
  intro w
  have HA:=Lib.hid HA
  have HX:=Lib.hid HX
  have HO0:=Lib.hid HO0
  have HT:=Lib.hid HT
  go_enter Tryz.func76,Tryz.ntmps76
  obtain ⟨fa,fr,hba⟩:=zdq w a0 a1 ⟨#[]⟩ ⟨#[]⟩
  go_wp2_with fail
  generalize ((w.alloc (.cells #[.string a0,.string a1] 23)).alloc (.cells #[.string ⟨#[]⟩,.string ⟨#[]⟩] 23))=W0 at *
  generalize hBe:w.heap.size+1=B0 at *
  have HBE:=Lib.hid (show w.heap.size≤B0∧w.heap.size<B0 by omega)
  have HLE:=Lib.hid (show B0≤W0.heap.size from Nat.le_of_lt (zaq fr))
  have HQ:=Lib.hid (show ∀ W':World,Below W0.heap.size W0 W'→(fun w':World=>w'.cell? ⟨w.heap.size,0,none⟩=some (.string a0)∧w'.cell? ⟨w.heap.size,1,none⟩=some (.string a1)) W' from fun W' h=>⟨(fa.below h).c0,(fa.below h).c1⟩)
  have HQS:=Lib.hid (show ∀ (W':World) (u v:Value),Below W0.heap.size W0 W'→(fun w':World=>w'.cell? ⟨w.heap.size,0,none⟩=some (.string a0)∧w'.cell? ⟨w.heap.size,1,none⟩=some (.string a1)) ((W'.setCell ⟨B0,0,none⟩ u).setCell ⟨B0,1,none⟩ v) from fun W' u v h =>
    have k:=Below.setCell (p:=⟨B0,1,none⟩) (Below.setCell (p:=⟨B0,0,none⟩) (h.mono HLE.out) (Nat.le_refl _) u) (Nat.le_refl _) v
    ⟨(fa.keep k HBE.out.2).c0,(fa.keep k HBE.out.2).c1⟩)
  dsimp only at HQ HQS
  have HFR:=Lib.hid fr
  have HFA:=Lib.hid fa
  have HBA:=Lib.hid hba
  clear fa fr hba hBe
  refine (HA.out _).mono ?_
  rintro e w1 ⟨rfl,hb1⟩
  have HB1:=Lib.hid hb1
  clear hb1
  have c0:=(HFA.out.below HB1.out).c0
  have c1:=(HFA.out.below HB1.out).c1
  go_wp2_with fail
  clear c0 c1
  refine (HX.out _).mono ?_
  rintro e wX ⟨rfl,hbX⟩
  go_wp2_with fail
  refine (HO0.out _).mono ?_
  rintro e wo0 ⟨rfl,hbo0⟩
  go_wp2_with fail
  refine (HT.out _).mono ?_
  rintro e wT ⟨rfl,hbT⟩
  have hbL:Below W0.heap.size W0 wT:=by repeat (with_reducible first|exact Below.refl _ _|exact HB1.out|apply zan|apply zab|refine bthen ?_ hbT|refine bthen ?_ hbo0|refine bthen ?_ hbX)
  have HB2:=Lib.hid hbL
  clear hbL
  have fr5:=HFR.out.below HB2.out
  have cB0:=fr5.c0
  have cB1:=fr5.c1
  have fB0:=zac fr5 0
  have fB1:=zac fr5 1
  obtain ⟨hF,hBF⟩:=zbg fr5 (bthen HBA.out HB2.out) HBE.out.1 t1 t2
  have HF:=Lib.hid hF
  have HBF:=Lib.hid hBF
  clear hF hBF fr5
  go_wp2
  refine bodyPost_ret (zas rfl _ _ B0 23 #[.string t1,.string t2] (0,0) _ rfl HF.out Tryz.underlying23 rfl (by kernel_rfl)) rfl ?_
  exact ⟨rfl,HBF.out⟩
theorem neg_no (a0 a1:ByteArray) (HA:Ans 36 #[.agg #[.string a0,.string a1]] (.bool false)):Ans 76 #[.agg #[.string a0,.string a1]] (.tuple #[.agg #[.string ⟨#[]⟩,.string ⟨#[]⟩],.int .i64 3]):=by
  intro w
  have HA:=Lib.hid HA
  go_enter Tryz.func76,Tryz.ntmps76
  obtain ⟨fa,fr,hba⟩:=zdq w a0 a1 ⟨#[]⟩ ⟨#[]⟩
  go_wp2_with fail
  generalize ((w.alloc (.cells #[.string a0,.string a1] 23)).alloc (.cells #[.string ⟨#[]⟩,.string ⟨#[]⟩] 23))=W0 at *
  generalize hBe:w.heap.size+1=B0 at *
  have HBE:=Lib.hid (show w.heap.size≤B0∧w.heap.size<B0 by omega)
  have HFR:=Lib.hid fr
  have HBA:=Lib.hid hba
  clear fa fr hba hBe
  refine (HA.out _).mono ?_
  rintro e w1 ⟨rfl,hb1⟩
  have HB2:=Lib.hid hb1
  clear hb1
  have fr5:=HFR.out.below HB2.out
  have cB0:=fr5.c0
  have cB1:=fr5.c1
  have fB0:=zac fr5 0
  have fB1:=zac fr5 1
  obtain ⟨hF,hBF⟩:=zbg fr5 (bthen HBA.out HB2.out) HBE.out.1 ⟨#[]⟩ ⟨#[]⟩
  have HF:=Lib.hid hF
  have HBF:=Lib.hid hBF
  clear hF hBF fr5
  go_wp2
  refine bodyPost_ret (zas rfl _ _ B0 23 #[.string ⟨#[]⟩,.string ⟨#[]⟩] (0,0) _ rfl HF.out Tryz.underlying23 rfl (by kernel_rfl)) rfl ?_
  exact ⟨rfl,HBF.out⟩
theorem neg_ans (a0 a1 r1 r2:ByteArray) (r3:Int) (h:rat_Neg.f a0 a1=some (r1,r2,r3)):Ans 76 #[.agg #[.string a0,.string a1]] (.tuple #[.agg #[.string r1,.string r2],.int .i64 r3]):=by
  unfold rat_Neg.f at h
  by_cases ha:∃ x,RR a0 a1 x
  · obtain ⟨x,hx⟩:=ha
    rw [zcC hx,tell_ok] at h
    have h:=Option.some.inj h
    have e1:=congrArg (fun r=>r.1) h
    have e2:=congrArg (fun r=>r.2.1) h
    have e3:=congrArg (fun r=>r.2.2) h
    subst e1; subst e2; subst e3
    exact neg_walk a0 a1 _ _ _ _ _ _ _ _ _ (zax hx) (zbH hx) (minus_ans _) (zcS _)
  · rw [zc9 ha] at h
    cases h
    exact neg_no a0 a1 (zaC ha)
theorem inv_quo (a0 a1 r1 r2:ByteArray) (r3:Int) (h:rat_Inv.f a0 a1=some (r1,r2,r3)):rat_Quo.f ⟨#[49]⟩ ⟨#[49]⟩ a0 a1=some (r1,r2,r3):=by
  rw [←h]
  unfold rat_Inv.f rat_Quo.f
  by_cases ha:∃ x,RR a0 a1 x
  · obtain ⟨x,hx⟩:=ha
    rw [zcC hx,zbU rr_11 hx,Rat.div_def,Rat.one_mul]
  · rw [zc9 ha,zbG (fun h=>ha h.2)]
theorem inv_ans (a0 a1 r1 r2:ByteArray) (r3:Int) (h:rat_Inv.f a0 a1=some (r1,r2,r3)):Ans 78 #[.agg #[.string a0,.string a1]] (.tuple #[.agg #[.string r1,.string r2],.int .i64 r3]):=by
  have HA:=Lib.hid (quo_ans ⟨#[49]⟩ ⟨#[49]⟩ a0 a1 r1 r2 r3 (inv_quo a0 a1 r1 r2 r3 h))
  clear h
  intro w
  go_enter Tryz.func78,Tryz.ntmps78
  obtain ⟨fa,fr,hba⟩:=zdq w a0 a1 ⟨#[]⟩ ⟨#[]⟩
  go_wp2_with fail
  generalize ((w.alloc (.cells #[.string a0,.string a1] 23)).alloc (.cells #[.string ⟨#[]⟩,.string ⟨#[]⟩] 23))=W0 at *
  generalize hBe:w.heap.size+1=B0 at *
  have HBE:=Lib.hid (show w.heap.size≤B0∧w.heap.size<B0 by omega)
  have HFR:=Lib.hid fr
  have HBA:=Lib.hid hba
  clear fa fr hba hBe
  refine (HA.out _).mono ?_
  rintro e w1 ⟨rfl,hb1⟩
  have HB2:=Lib.hid hb1
  clear hb1
  have fr5:=HFR.out.below HB2.out
  have cB0:=fr5.c0
  have cB1:=fr5.c1
  have fB0:=zac fr5 0
  have fB1:=zac fr5 1
  obtain ⟨hF,hBF⟩:=zbg fr5 (bthen HBA.out HB2.out) HBE.out.1 r1 r2
  have HF:=Lib.hid hF
  have HBF:=Lib.hid hBF
  clear hF hBF fr5
  go_wp2
  refine bodyPost_ret (zas rfl _ _ B0 23 #[.string r1,.string r2] (0,0) _ rfl HF.out Tryz.underlying23 rfl (by kernel_rfl)) rfl ?_
  exact ⟨rfl,HBF.out⟩
end Go.Proofs.ZQ
end
section
namespace Go.Proofs.ZQ
open Go.RowKit Go.Proofs.ZW.Wa Go.Proofs.ZP
structure St4 (w W:World) (A B X Y:Nat) (a0 a1 b0 b1 x0 x1 y0 y1:ByteArray):Prop where
 a:RbAt W A a0 a1
 b:RbAt W B b0 b1
 x:RbAt W X x0 x1
 y:RbAt W Y y0 y1
 hb:Below w.heap.size w W
 d:w.heap.size≤X∧A<X∧B<X∧X<Y
theorem St4.call {w W W':World} {A B X Y:Nat} {a0 a1 b0 b1 x0 x1 y0 y1:ByteArray} (h:St4 w W A B X Y a0 a1 b0 b1 x0 x1 y0 y1) (k:Below W.heap.size W W'):St4 w W' A B X Y a0 a1 b0 b1 x0 x1 y0 y1:=
 ⟨h.a.below k,h.b.below k,h.x.below k,h.y.below k,bthen h.hb k,h.d⟩
theorem St4.putX {w W:World} {A B X Y:Nat} {a0 a1 b0 b1 x0 x1 y0 y1:ByteArray} (h:St4 w W A B X Y a0 a1 b0 b1 x0 x1 y0 y1) (u v:ByteArray):St4 w ((W.setCell ⟨X,0,none⟩ (.string u)).setCell ⟨X,1,none⟩ (.string v)) A B X Y a0 a1 b0 b1 u v y0 y1:=by
 obtain ⟨d1,d2,d3,d4⟩:=h.d
 obtain ⟨k1,k2⟩:=zbg h.x h.hb d1 u v
 exact ⟨zcU h.a (by omega) _ _,zcU h.b (by omega) _ _,k1,zcU h.y (by omega) _ _,k2,h.d⟩
theorem St4.putY {w W:World} {A B X Y:Nat} {a0 a1 b0 b1 x0 x1 y0 y1:ByteArray} (h:St4 w W A B X Y a0 a1 b0 b1 x0 x1 y0 y1) (u v:ByteArray):St4 w ((W.setCell ⟨Y,0,none⟩ (.string u)).setCell ⟨Y,1,none⟩ (.string v)) A B X Y a0 a1 b0 b1 x0 x1 u v:=by
 obtain ⟨d1,d2,d3,d4⟩:=h.d
 obtain ⟨k1,k2⟩:=zbg h.y h.hb (by omega) u v
 exact ⟨zcU h.a (by omega) _ _,zcU h.b (by omega) _ _,zcU h.x (by omega) _ _,k1,k2,h.d⟩
theorem zdi (why:Rat→Rat→Int) (op:Rat→Rat→Rat) (a0 a1 b0 b1:ByteArray):∃ r1 r2 r3,twoF why op a0 a1 b0 b1=some (r1,r2,r3):=by
 by_cases h:(∃ x,RR a0 a1 x)∧∃ y,RR b0 b1 y
 ·obtain ⟨⟨x,hx⟩,y,hy⟩:=h
  exact ⟨_,_,_,zbU hx hy⟩
 ·exact ⟨_,_,_,zbG h⟩
theorem oneF_some (why:Rat→Int) (op:Rat→Rat) (a0 a1:ByteArray):∃ r1 r2 r3,oneF why op a0 a1=some (r1,r2,r3):=by
 by_cases h:∃ x,RR a0 a1 x
 ·obtain ⟨x,hx⟩:=h
  exact ⟨_,_,_,zcC hx⟩
 ·exact ⟨_,_,_,zc9 h⟩
def cmpR (x y:Rat):Int:=(x.num*y.den-y.num*x.den).sign
noncomputable def rat_Cmp.f (a0_0 a0_1 a1_0 a1_1:ByteArray):Option (Int×Int):=by
 classical exact if h:(∃ x,RR a0_0 a0_1 x)∧∃ y,RR a1_0 a1_1 y then some (cmpR h.1.choose h.2.choose,0) else some (0,3)
noncomputable def rat_Floor.f (a0_0 a0_1:ByteArray):Option (ByteArray×ByteArray×Int):=oneF (fun x=>0) (fun x=>((x.floor:Int):Rat)) a0_0 a0_1
theorem start1c (w:World) (a0 a1:ByteArray) (p:Int):(((w.alloc (.cells #[.string a0,.string a1] 23)).alloc (.cells #[.int .i64 p] 3)).alloc (.cells #[.string ⟨#[]⟩,.string ⟨#[]⟩] 23)).heap[w.heap.size+1+1]? = some (.cells #[.string ⟨#[]⟩,.string ⟨#[]⟩] 23 (0,0)) ∧
  (((w.alloc (.cells #[.string a0,.string a1] 23)).alloc (.cells #[.int .i64 p] 3)).alloc (.cells #[.string ⟨#[]⟩,.string ⟨#[]⟩] 23)).heap[w.heap.size+1]? = some (.cells #[.int .i64 p] 3 (0,0)) ∧
  Below w.heap.size w (((w.alloc (.cells #[.string a0,.string a1] 23)).alloc (.cells #[.int .i64 p] 3)).alloc (.cells #[.string ⟨#[]⟩,.string ⟨#[]⟩] 23)):=by
 refine ⟨?_,?_,zaa (zaa (zaa (Below.refl _ _) _) _) _⟩
 ·have:=zaA ((w.alloc (.cells #[.string a0,.string a1] 23)).alloc (.cells #[.int .i64 p] 3)) (.cells #[.string ⟨#[]⟩,.string ⟨#[]⟩] 23)
  simp only [World.size_alloc] at this
  exact this
 ·have h1:=zaA (w.alloc (.cells #[.string a0,.string a1] 23)) (.cells #[.int .i64 p] 3)
  have h2:=zaa (Below.refl ((w.alloc (.cells #[.string a0,.string a1] 23)).alloc (.cells #[.int .i64 p] 3)).heap.size ((w.alloc (.cells #[.string a0,.string a1] 23)).alloc (.cells #[.int .i64 p] 3))) (.cells #[.string ⟨#[]⟩,.string ⟨#[]⟩] 23)
  rw [World.size_alloc] at h1
  exact (h2.block _ (by simp only [World.size_alloc]; omega)).trans h1
noncomputable def rat_Round.f (a0_0 a0_1:ByteArray) (a1:Int):Option (ByteArray×ByteArray×Int):=oneF (fun _=>if a1 < -600∨600<a1 then 1 else 0) (fun x=>((evenR (x*tenR a1):Int):Rat)*tenR (-a1)) a0_0 a0_1
end Go.Proofs.ZQ
end
