/- Texts under the proof, joined by a program (prune.py): HTwo, QRatB, QPlus. -/
import Derived.Test.YtglaeambknhjlaaGreatDoorCRatReckons15
import Derived.Test.YtglaeambknhjlaaGreatDoorCRatReckons09
import Derived.Test.YtglaeambknhjlaaGreatDoorCRatReckons04
import Derived.WalkSpells
import Derived.StillTailTactics
import Derived.Shelf.Abstract
import Derived.Test.YtglaeambknhjlaaGreatDoorCRatReckons07
import Derived.Test.YtglaeambknhjlaaGreatDoorCRatReckons13
import Derived.Test.YtglaeambknhjlaaGreatDoorCRatReckons11
import Derived.Test.YtglaeambknhjlaaGreatDoorCRatReckons14
set_option linter.unusedVariables false
set_option linter.unusedSimpArgs false
set_option exponentiation.threshold 20001
set_option maxHeartbeats 8000000
set_option maxRecDepth 100000
section
namespace Go.Proofs.ZP
open Go.RowKit Go.Proofs.ZW.Wa
theorem rr_all (ps:List (ByteArray×ByteArray)):∃ X:Nat→Rat,(∀ j (h:j<ps.length),RR ps[j].1 ps[j].2 (X j))∨∃ m,∃ hm:m<ps.length,(∀ j (h:j<ps.length),j<m→RR ps[j].1 ps[j].2 (X j))∧¬ ∃ x,RR ps[m].1 ps[m].2 x:=by
 classical
 refine ⟨fun j=>if h:∃ x,∃ h:j<ps.length,RR ps[j].1 ps[j].2 x then h.choose else 0,?_⟩
 have hX:∀ j (h:j<ps.length),(∃ x,RR ps[j].1 ps[j].2 x)→RR ps[j].1 ps[j].2 (if h:∃ x,∃ h:j<ps.length,RR ps[j].1 ps[j].2 x then h.choose else 0):=fun j h ⟨x,hx⟩=>by
  have he:∃ x,∃ h:j<ps.length,RR ps[j].1 ps[j].2 x:=⟨x,h,hx⟩
  rw [dif_pos he]
  exact he.choose_spec.2
 by_cases hall:∀ j (h:j<ps.length),∃ x,RR ps[j].1 ps[j].2 x
 ·exact Or.inl fun j h=>hX j h (hall j h)
 ·right
  have hex:∃ m,∃ hm:m<ps.length,¬ ∃ x,RR ps[m].1 ps[m].2 x:=by
   apply Classical.byContradiction
   intro hn
   apply hall
   intro j h
   apply Classical.byContradiction
   intro hj
   exact hn ⟨j,h,hj⟩
  have hmin:∀ n,(∃ m,m≤n∧∃ hm:m<ps.length,¬ ∃ x,RR ps[m].1 ps[m].2 x)→∃ m,∃ hm:m<ps.length,(∀ j (h:j<ps.length),j<m→∃ x,RR ps[j].1 ps[j].2 x)∧¬ ∃ x,RR ps[m].1 ps[m].2 x:=by
   intro n
   induction n with
   | zero =>
    rintro ⟨m,hm0,hm,hno⟩
    exact ⟨m,hm,fun j _ hj=>by omega,hno⟩
   | succ n ih =>
    rintro ⟨m,hm0,hm,hno⟩
    by_cases hl:∃ m,m≤n∧∃ hm:m<ps.length,¬ ∃ x,RR ps[m].1 ps[m].2 x
    ·exact ih hl
    ·refine ⟨m,hm,fun j h hj => ?_,hno⟩
     apply Classical.byContradiction
     intro hj2
     exact hl ⟨j,by omega,h,hj2⟩
  obtain ⟨m0,h0⟩:=hex
  obtain ⟨m,hm,h1,h2⟩:=hmin m0 ⟨m0,Nat.le_refl _,h0⟩
  exact ⟨m,hm,fun j h hj=>hX j h (h1 j h hj),h2⟩
theorem row2 (W:World) (a0 a1 b0 b1:ByteArray):RowR (W.alloc (.cells #[.string a0,.string a1,.string b0,.string b1] 23)) (some ⟨W.heap.size,0,none⟩) [(a0,a1),(b0,b1)]:=fun j hj=>by
 have hb:=zaA W (.cells #[.string a0,.string a1,.string b0,.string b1] 23)
 refine ⟨W.heap.size,0,rfl,zaq hb,?_⟩
 rcases j with _|_|j
 ·exact ⟨(zaf hb 0).trans rfl,(zaf hb 1).trans rfl⟩
 ·exact ⟨(zaf hb 2).trans rfl,(zaf hb 3).trans rfl⟩
 ·simp at hj; omega
theorem two_start (w:World) (a0 a1 b0 b1:ByteArray):RowR ((((w.alloc (.cells #[.string a0,.string a1] 23)).alloc (.cells #[.string b0,.string b1] 23)).alloc (.cells #[.string ⟨#[]⟩,.string ⟨#[]⟩] 23)).alloc (.cells #[.string a0,.string a1,.string b0,.string b1] 23)) (some ⟨w.heap.size+1+1+1,0,none⟩) [(a0,a1),(b0,b1)] ∧
  ((((w.alloc (.cells #[.string a0,.string a1] 23)).alloc (.cells #[.string b0,.string b1] 23)).alloc (.cells #[.string ⟨#[]⟩,.string ⟨#[]⟩] 23)).alloc (.cells #[.string a0,.string a1,.string b0,.string b1] 23)).heap[w.heap.size+1+1]? = some (.cells #[.string ⟨#[]⟩,.string ⟨#[]⟩] 23 (0,0))∧Below w.heap.size w ((((w.alloc (.cells #[.string a0,.string a1] 23)).alloc (.cells #[.string b0,.string b1] 23)).alloc (.cells #[.string ⟨#[]⟩,.string ⟨#[]⟩] 23)).alloc (.cells #[.string a0,.string a1,.string b0,.string b1] 23)):=by
 have h1:=row2 (((w.alloc (.cells #[.string a0,.string a1] 23)).alloc (.cells #[.string b0,.string b1] 23)).alloc (.cells #[.string ⟨#[]⟩,.string ⟨#[]⟩] 23)) a0 a1 b0 b1
 have h2:=zaA ((w.alloc (.cells #[.string a0,.string a1] 23)).alloc (.cells #[.string b0,.string b1] 23)) (.cells #[.string ⟨#[]⟩,.string ⟨#[]⟩] 23)
 have h3:=bthen (zaa (Below.refl w.heap.size w) (.cells #[.string a0,.string a1] 23)) (zaa (Below.refl _ _) (.cells #[.string b0,.string b1] 23))
 have h4:=zaa (Below.refl (((w.alloc (.cells #[.string a0,.string a1] 23)).alloc (.cells #[.string b0,.string b1] 23)).alloc (.cells #[.string ⟨#[]⟩,.string ⟨#[]⟩] 23)).heap.size (((w.alloc (.cells #[.string a0,.string a1] 23)).alloc (.cells #[.string b0,.string b1] 23)).alloc (.cells #[.string ⟨#[]⟩,.string ⟨#[]⟩] 23))) (.cells #[.string a0,.string a1,.string b0,.string b1] 23)
 simp only [World.size_alloc] at h1 h2
 refine ⟨h1,?_,bthen h3 (bthen (zaa (Below.refl _ _) _) h4)⟩
 rw [h4.block _ (by simp only [World.size_alloc]; omega)]
 exact h2
theorem two_no (a0 a1 b0 b1:ByteArray) (K:Nat) (caps:Array Value) (w:World) (h:¬ ((∃ x,RR a0 a1 x)∧∃ y,RR b0 b1 y)) :
  Calls Tryz.prog 121 #[.agg #[.string a0,.string a1],.agg #[.string b0,.string b1],.func (.func K) #[] caps] w fun e w'=>e = .returned (.tuple #[.agg #[.string ⟨#[]⟩,.string ⟨#[]⟩],.int .i64 3])∧Below w.heap.size w w':=by
 have HA:∀ (A:Option Addr) (c:Nat) (W:World),RowR W A [(a0,a1),(b0,b1)]→Calls Tryz.prog 119 #[.slice A 2 c] W fun e w'=>e = .returned (.slice none 0 0)∧Below W.heap.size W w':=fun A c W hr=>by
  obtain ⟨X,hX|⟨m,hm,h1,h2⟩⟩:=rr_all [(a0,a1),(b0,b1)]
  ·exact absurd ⟨⟨_,hX 0 (by simp)⟩,⟨_,hX 1 (by simp)⟩⟩ h
  ·exact all_no A c [(a0,a1),(b0,b1)] X m W hr (by simp) hm h1 h2
 clear h
 go_enter Tryz.func121,Tryz.ntmps121
 obtain ⟨hrow,hbk,hba⟩:=two_start w a0 a1 b0 b1
 have hnil:=fun (W:World) (a:Option Addr) (n c:Nat)=>Lib.run_eql_slice_nil (P:=Tryz.prog) W 120 82 a n c 0 0 Tryz.underlying120
 go_wp2_with fail
 generalize ((((w.alloc (.cells #[.string a0,.string a1] 23)).alloc (.cells #[.string b0,.string b1] 23)).alloc (.cells #[.string ⟨#[]⟩,.string ⟨#[]⟩] 23)).alloc (.cells #[.string a0,.string a1,.string b0,.string b1] 23))=W0 at *
 generalize w.heap.size+1+1+1=L at *
 generalize hBe:w.heap.size+1+1=B0 at *
 have HBE:=Lib.hid (show w.heap.size≤B0 by omega)
 clear hBe
 refine (HA _ _ _ hrow).mono ?_
 rintro e w1 ⟨rfl,hb1⟩
 have hbk2:=(hb1.block _ (zaq hbk)).trans hbk
 have hB2:=bthen hba hb1
 have cB0:=(zaf hbk2 0).trans (show _=some (Value.string ⟨#[]⟩) from rfl)
 have cB1:=(zaf hbk2 1).trans (show _=some (Value.string ⟨#[]⟩) from rfl)
 have fB0:=zac hbk2 0
 have fB1:=zac hbk2 1
 have hs1:=zat hbk2 0 (.string ⟨#[]⟩)
 have hs2:=zat hs1 1 (.string ⟨#[]⟩)
 have HS2:=Lib.hid (hs2.trans (show _=some (Obj.cells #[.string ⟨#[]⟩,.string ⟨#[]⟩] 23 (0,0)) from rfl))
 have HBF:=Lib.hid (zag (zag (g:=B0) (j:=0) (v:=.string ⟨#[]⟩) hB2 HBE.out) (j:=1) (v:=.string ⟨#[]⟩) (g:=B0) HBE.out)
 clear hs1 hs2 hbk hbk2 hrow
 go_wp2
 refine bodyPost_ret (zas rfl _ _ B0 23 #[.string ⟨#[]⟩,.string ⟨#[]⟩] (0,0) _ rfl HS2.out Tryz.underlying23 rfl (by kernel_rfl)) rfl ?_
 exact ⟨rfl,HBF.out⟩
theorem Upd.keepB {w w':World} {b lo hi:Nat} (h:Upd w w' b lo hi):KeepB w w' b:=⟨h.os,h.tape,h.output,h.size,h.other⟩
theorem KeepB.of_below {w w':World} (h:Below w.heap.size w w') (b:Nat):KeepB w w' b:=⟨h.os,h.tape,h.output,h.size,fun k hk _=>h.block k hk⟩
def TwoDo (K:Nat) (caps:Array Value) (w:World) (x y:Rat) (why:Int) (r:Rat):Prop:=
 ∀ (W:World) (z gx gy:Nat),Below w.heap.size w W→w.heap.size≤z→w.heap.size≤gx→w.heap.size≤gy→z≠gx→z≠gy→RatAt W z 0→RatAt W gx x→RatAt W gy y →
  Calls Tryz.prog K (#[.pointer (some ⟨z,0,none⟩),.pointer (some ⟨gx,0,none⟩),.pointer (some ⟨gy,0,none⟩)]++caps) W fun e w'=>e = .returned (.int .i64 why)∧(why=0→RatAt w' z r)∧KeepB W w' z
theorem two_yes (a0 a1 b0 b1:ByteArray) (x y:Rat) (K:Nat) (caps:Array Value) (why:Int) (r:Rat) {n:Nat} (w:World) (hE:Enters Tryz.prog K) (hx:RR a0 a1 x) (hy:RR b0 b1 y) (hd:TwoDo K caps w x y why r) (hs:why=0→Bdr n r) (hn:n≤big) :
  Calls Tryz.prog 121 #[.agg #[.string a0,.string a1],.agg #[.string b0,.string b1],.func (.func K) #[] caps] w fun e w'=>e = .returned (.tuple #[.agg #[.string (if why=0 then toldR r else (⟨#[]⟩,⟨#[]⟩,why)).1,.string (if why=0 then toldR r else (⟨#[]⟩,⟨#[]⟩,why)).2.1],.int .i64 (if why=0 then toldR r else (⟨#[]⟩,⟨#[]⟩,why)).2.2])∧Below w.heap.size w w':=by
 have HA:∀ (A:Option Addr) (c:Nat) (W:World),RowR W A [(a0,a1),(b0,b1)]→Calls Tryz.prog 119 #[.slice A 2 c] W fun e w'=>∃ (g:Nat) (ds:List Nat),e = .returned (.slice (some ⟨g,0,none⟩) 2 2)∧ds.length=2∧Hid (ASt W w' g 2 (fun j=>if j=0 then x else y) ds):=fun A c W hr=>by
  exact all_yes A c [(a0,a1),(b0,b1)] (fun j=>if j=0 then x else y) W hr (by simp) (fun j hj=>by
   rcases j with _|_|j
   ·exact hx
   ·exact hy
   ·simp at hj; omega)
 have HD:=Lib.hid hd
 have HE:=Lib.hid hE
 clear hx hy hd hE
 go_enter Tryz.func121,Tryz.ntmps121
 obtain ⟨hrow,hbk,hba⟩:=two_start w a0 a1 b0 b1
 have hnil:=fun (W:World) (a:Option Addr) (n c:Nat)=>Lib.run_eql_slice_nil (P:=Tryz.prog) W 120 82 a n c 0 0 Tryz.underlying120
 go_wp2_with fail
 generalize ((((w.alloc (.cells #[.string a0,.string a1] 23)).alloc (.cells #[.string b0,.string b1] 23)).alloc (.cells #[.string ⟨#[]⟩,.string ⟨#[]⟩] 23)).alloc (.cells #[.string a0,.string a1,.string b0,.string b1] 23))=W0 at *
 generalize w.heap.size+1+1+1=L at *
 generalize hBe:w.heap.size+1+1=B0 at *
 have HBE:=Lib.hid (show w.heap.size≤B0 by omega)
 clear hBe
 refine (HA _ _ _ hrow).mono ?_
 rintro e w1 ⟨g,ds,rfl,hdl,HS⟩
 obtain ⟨d0,d1,rfl⟩:∃ d0 d1,ds = [d0,d1]:=by
  rcases ds with _|⟨d0,_|⟨d1,_|⟨d2,t⟩⟩⟩
  ·simp at hdl
  ·simp at hdl
  ·exact ⟨d0,d1,rfl⟩
  ·simp at hdl
 obtain ⟨p1,p2,p3⟩:=HS.out.at_ 0 (by simp)
 obtain ⟨q1,q2,q3⟩:=HS.out.at_ 1 (by simp)
 simp only [List.getElem_cons_zero,List.getElem_cons_succ,if_true,if_false,Nat.one_ne_zero] at p1 p2 p3 q1 q2 q3
 have hblk:=HS.out.blk
 have hB1:=HS.out.below
 have hbk1:=(hB1.block _ (zaq hbk)).trans hbk
 have hBw:=bthen hba hB1
 have hsz0:=hba.size
 have hBz:B0<w1.heap.size:=Nat.lt_of_lt_of_le (zaq hbk) hB1.size
 have hlx:=p3.lt
 have hly:=q3.lt
 have hnew:=RatAt.new w1 112 (by decide)
 have hbz:=zaa (Below.refl w1.heap.size w1) (.cells #[.bool false,.slice none 0 0,.bool false,.slice none 0 0] 112)
 have hsz1:=hBw.size
 have hx2:=p3.below hbz
 have hy2:=q3.below hbz
 have hB2:=bthen hBw hbz
 have c0:=(zaf ((hbz.block _ (zaq hblk)).trans hblk) 0).trans (show _=some (Value.pointer (some ⟨d0,0,none⟩)) from rfl)
 have c1:=(zaf ((hbz.block _ (zaq hblk)).trans hblk) 1).trans (show _=some (Value.pointer (some ⟨d1,0,none⟩)) from rfl)
 have hbk2:=(hbz.block _ (zaq hbk1)).trans hbk1
 clear hdl hrow hba hB1 hblk p3 q3 hBw hbk hbk1 hbz
 have hz0:w.heap.size≤w1.heap.size:=hsz1
 go_wp2_with fail
 generalize w1.alloc (.cells #[.bool false,.slice none 0 0,.bool false,.slice none 0 0] 112)=w2 at *
 generalize w1.heap.size=z at *
 go_still_tail 8,(by kernel_rfl)
 change wpList _ _ _ _ _ w2.drew
 have hbd:=zae w2
 have hx3:=hx2.below hbd
 have hy3:=hy2.below hbd
 have hB3:=bthen hB2 hbd
 have hz3:=hnew.below hbd
 have hbk3:=(hbd.block _ (zaq hbk2)).trans hbk2
 clear hnew hx2 hy2 hB2 hbk2 hbd c0 c1
 generalize w2.drew=w3 at *
 have hE:=HE.out
 unfold Enters at hE
 go_wp2_with fail
 clear hE HE HA hnil
 have hz00:w.heap.size≤z:=hz0
 refine (HD.out _ _ _ _ hB3 (by omega) (by omega) (by omega) (by omega) (by omega) hz3 hx3 hy3).mono ?_
 rintro e w4 ⟨rfl,hz4,hk4⟩
 have hbk4:=(hk4.other _ (zaq hbk3) (by omega)).trans hbk3
 have hB4:=KeepB.below hB3 hk4 hz00
 clear hk4 hz3 hx3 hy3 hB3 hbk3
 by_cases hw:why=0
 ·subst hw
  have hz5:=hz4 rfl
  have HBR:=Lib.hid (hs rfl)
  clear hz4 hs HD
  go_wp2_with fail
  refine (zcq z r _ hz5 HBR.out hn).mono ?_
  rintro e w5 ⟨rfl,hb5⟩
  have hbk5:=(hb5.block _ (zaq hbk4)).trans hbk4
  have hB5:=bthen hB4 hb5
  generalize htt:toldR r=tt
  have HTT:=Lib.hid htt
  clear htt
  have cB0:=(zaf hbk5 0).trans (show _=some (Value.string ⟨#[]⟩) from rfl)
  have cB1:=(zaf hbk5 1).trans (show _=some (Value.string ⟨#[]⟩) from rfl)
  have fB0:=zac hbk5 0
  have fB1:=zac hbk5 1
  have hs1:=zat hbk5 0 (.string tt.1)
  have hs2:=zat hs1 1 (.string tt.2.1)
  have HS2:=Lib.hid (hs2.trans (show _=some (Obj.cells #[.string tt.1,.string tt.2.1] 23 (0,0)) from rfl))
  have HBF:=Lib.hid (zag (zag (g:=B0) (j:=0) (v:=.string tt.1) hB5 HBE.out) (j:=1) (v:=.string tt.2.1) (g:=B0) HBE.out)
  clear hs1 hs2 hbk4 hbk5 hB4 hb5 hz5
  go_wp2
  refine bodyPost_ret (zas rfl _ _ B0 23 #[.string tt.1,.string tt.2.1] (0,0) _ rfl HS2.out Tryz.underlying23 rfl (by kernel_rfl)) rfl ?_
  exact ⟨by first|(rw [HTT.out]; rfl)|(rw [if_pos rfl,HTT.out]; rfl),HBF.out⟩
 ·have HW:=Lib.hid hw
  have hne:(why == 0)=false:=beq_eq_false_iff_ne.2 hw
  clear hz4 hs HD
  have cB0:=(zaf hbk4 0).trans (show _=some (Value.string ⟨#[]⟩) from rfl)
  have cB1:=(zaf hbk4 1).trans (show _=some (Value.string ⟨#[]⟩) from rfl)
  have fB0:=zac hbk4 0
  have fB1:=zac hbk4 1
  have hs1:=zat hbk4 0 (.string ⟨#[]⟩)
  have hs2:=zat hs1 1 (.string ⟨#[]⟩)
  have HS2:=Lib.hid (hs2.trans (show _=some (Obj.cells #[.string ⟨#[]⟩,.string ⟨#[]⟩] 23 (0,0)) from rfl))
  have HBF:=Lib.hid (zag (zag (g:=B0) (j:=0) (v:=.string ⟨#[]⟩) hB4 HBE.out) (j:=1) (v:=.string ⟨#[]⟩) (g:=B0) HBE.out)
  clear hs1 hs2 hbk4
  go_wp2
  refine bodyPost_ret (zas rfl _ _ B0 23 #[.string ⟨#[]⟩,.string ⟨#[]⟩] (0,0) _ rfl HS2.out Tryz.underlying23 rfl (by kernel_rfl)) rfl ?_
  exact ⟨by first|rfl|(simp only [if_neg HW.out]; rfl),HBF.out⟩
def OneDo (K:Nat) (caps:Array Value) (w:World) (x:Rat) (why:Int) (r:Rat):Prop:=
 ∀ (W:World) (z gx:Nat),Below w.heap.size w W→w.heap.size≤z→w.heap.size≤gx→z≠gx→RatAt W z 0→RatAt W gx x →
  Calls Tryz.prog K (#[.pointer (some ⟨z,0,none⟩),.pointer (some ⟨gx,0,none⟩)]++caps) W fun e w'=>e = .returned (.int .i64 why)∧(why=0→RatAt w' z r)∧KeepB W w' z
theorem OneDo.mono {K:Nat} {caps:Array Value} {w w2:World} {x:Rat} {why:Int} {r:Rat} (h:OneDo K caps w x why r) (hb:Below w.heap.size w w2):OneDo K caps w2 x why r:=fun W z gx h1 h2 h3 h4 h5 h6 =>
 h W z gx (bthen hb h1) (Nat.le_trans hb.size h2) (Nat.le_trans hb.size h3) h4 h5 h6
theorem one_do (K:Nat) (caps:Array Value) (B:Nat) (w:World) (x y:Rat) (why:Int) (r:Rat) (hE:Enters Tryz.prog K) (hB:w.heap[B]? = some (.cells #[.func (.func K) #[] caps] 131 (0,0))) (hd:OneDo K caps w x why r) :
  TwoDo 210 #[.pointer (some ⟨B,0,none⟩)] w x y why r:=fun W z gx gy hb hz hx hy hzx hzy rz rx ry=>by
 have hbk:=(hb.block _ (zaq hB)).trans hB
 have c0:=(zaf hbk 0).trans (show _=some (Value.func (.func K) #[] caps) from rfl)
 have HD:=Lib.hid (hd W z gx hb hz hx hzx rz rx)
 unfold Enters at hE
 clear hd hB hbk ry hb
 show Calls Tryz.prog 210 #[.pointer (some ⟨z,0,none⟩),.pointer (some ⟨gx,0,none⟩),.pointer (some ⟨gy,0,none⟩),.pointer (some ⟨B,0,none⟩)] W _
 go_enter Tryz.func210,Tryz.ntmps210
 go_wp2_with fail
 refine HD.out.mono ?_
 rintro e w4 ⟨rfl,hz4,hk4⟩
 have HZ:=Lib.hid hz4
 clear hz4 hE
 go_wp2
 go_ret
 exact ⟨rfl,HZ.out,hk4⟩
theorem one_start (w:World) (a0 a1:ByteArray) (K:Nat) (caps:Array Value):(((w.alloc (.cells #[.string a0,.string a1] 23)).alloc (.cells #[.func (.func K) #[] caps] 131)).alloc (.cells #[.string ⟨#[]⟩,.string ⟨#[]⟩] 23)).heap[w.heap.size+1]? = some (.cells #[.func (.func K) #[] caps] 131 (0,0)) ∧
  (((w.alloc (.cells #[.string a0,.string a1] 23)).alloc (.cells #[.func (.func K) #[] caps] 131)).alloc (.cells #[.string ⟨#[]⟩,.string ⟨#[]⟩] 23)).heap[w.heap.size+1+1]? = some (.cells #[.string ⟨#[]⟩,.string ⟨#[]⟩] 23 (0,0))∧Below w.heap.size w (((w.alloc (.cells #[.string a0,.string a1] 23)).alloc (.cells #[.func (.func K) #[] caps] 131)).alloc (.cells #[.string ⟨#[]⟩,.string ⟨#[]⟩] 23)):=by
 have h1:=zaA (w.alloc (.cells #[.string a0,.string a1] 23)) (.cells #[.func (.func K) #[] caps] 131)
 have h2:=zaA ((w.alloc (.cells #[.string a0,.string a1] 23)).alloc (.cells #[.func (.func K) #[] caps] 131)) (.cells #[.string ⟨#[]⟩,.string ⟨#[]⟩] 23)
 have h3:=bthen (zaa (Below.refl w.heap.size w) (.cells #[.string a0,.string a1] 23)) (zaa (Below.refl _ _) (.cells #[.func (.func K) #[] caps] 131))
 have h4:=zaa (Below.refl ((w.alloc (.cells #[.string a0,.string a1] 23)).alloc (.cells #[.func (.func K) #[] caps] 131)).heap.size ((w.alloc (.cells #[.string a0,.string a1] 23)).alloc (.cells #[.func (.func K) #[] caps] 131))) (.cells #[.string ⟨#[]⟩,.string ⟨#[]⟩] 23)
 simp only [World.size_alloc] at h1 h2
 refine ⟨?_,h2,bthen h3 h4⟩
 rw [h4.block _ (by simp only [World.size_alloc]; omega)]
 exact h1
theorem one_walk (a0 a1:ByteArray) (K:Nat) (caps:Array Value) (w:World) (tt:ByteArray×ByteArray×Int)
  (hd:∀ (W:World) (B:Nat),Below w.heap.size w W→W.heap[B]? = some (.cells #[.func (.func K) #[] caps] 131 (0,0)) →
   Calls Tryz.prog 121 #[.agg #[.string a0,.string a1],.agg #[.string a0,.string a1],.func (.func 210) #[] #[.pointer (some ⟨B,0,none⟩)]] W fun e w'=>e = .returned (.tuple #[.agg #[.string tt.1,.string tt.2.1],.int .i64 tt.2.2])∧Below W.heap.size W w') :
  Calls Tryz.prog 132 #[.agg #[.string a0,.string a1],.func (.func K) #[] caps] w fun e w'=>e = .returned (.tuple #[.agg #[.string tt.1,.string tt.2.1],.int .i64 tt.2.2])∧Below w.heap.size w w':=by
 have HD:=Lib.hid hd
 clear hd
 go_enter Tryz.func132,Tryz.ntmps132
 obtain ⟨hbx,hbk,hba⟩:=one_start w a0 a1 K caps
 go_wp2_with fail
 generalize (((w.alloc (.cells #[.string a0,.string a1] 23)).alloc (.cells #[.func (.func K) #[] caps] 131)).alloc (.cells #[.string ⟨#[]⟩,.string ⟨#[]⟩] 23))=W0 at *
 generalize hBx:w.heap.size+1=X0 at *
 generalize hBe:X0+1=B0 at *
 have HBE:=Lib.hid (show w.heap.size≤B0 by omega)
 clear hBe hBx
 refine (HD.out _ _ hba hbx).mono ?_
 rintro e w1 ⟨rfl,hb1⟩
 have hbk5:=(hb1.block _ (zaq hbk)).trans hbk
 have hB5:=bthen hba hb1
 have cB0:=(zaf hbk5 0).trans (show _=some (Value.string ⟨#[]⟩) from rfl)
 have cB1:=(zaf hbk5 1).trans (show _=some (Value.string ⟨#[]⟩) from rfl)
 have fB0:=zac hbk5 0
 have fB1:=zac hbk5 1
 have hs1:=zat hbk5 0 (.string tt.1)
 have hs2:=zat hs1 1 (.string tt.2.1)
 have HS2:=Lib.hid (hs2.trans (show _=some (Obj.cells #[.string tt.1,.string tt.2.1] 23 (0,0)) from rfl))
 have HBF:=Lib.hid (zag (zag (g:=B0) (j:=0) (v:=.string tt.1) hB5 HBE.out) (j:=1) (v:=.string tt.2.1) (g:=B0) HBE.out)
 clear hs1 hs2 hbk hbk5 hbx hba hb1 HD
 go_wp2
 refine bodyPost_ret (zas rfl _ _ B0 23 #[.string tt.1,.string tt.2.1] (0,0) _ rfl HS2.out Tryz.underlying23 rfl (by kernel_rfl)) rfl ?_
 exact ⟨rfl,HBF.out⟩
noncomputable def tell (why:Int) (r:Rat):ByteArray×ByteArray×Int:=if why=0 then toldR r else (⟨#[]⟩,⟨#[]⟩,why)
theorem one_no (a0 a1:ByteArray) (K:Nat) (caps:Array Value) (w:World) (h:¬ ∃ x,RR a0 a1 x) :
  Calls Tryz.prog 132 #[.agg #[.string a0,.string a1],.func (.func K) #[] caps] w fun e w'=>e = .returned (.tuple #[.agg #[.string ⟨#[]⟩,.string ⟨#[]⟩],.int .i64 3])∧Below w.heap.size w w':=
 one_walk a0 a1 K caps w (⟨#[]⟩,⟨#[]⟩,3) fun W B hb hB=>two_no a0 a1 a0 a1 210 #[.pointer (some ⟨B,0,none⟩)] W (fun hh=>h hh.1)
theorem one_yes (a0 a1:ByteArray) (x:Rat) (K:Nat) (caps:Array Value) (why:Int) (r:Rat) {n:Nat} (w:World) (hE:Enters Tryz.prog K) (hx:RR a0 a1 x) (hd:OneDo K caps w x why r) (hs:why=0→Bdr n r) (hn:n≤big) :
  Calls Tryz.prog 132 #[.agg #[.string a0,.string a1],.func (.func K) #[] caps] w fun e w'=>e = .returned (.tuple #[.agg #[.string (tell why r).1,.string (tell why r).2.1],.int .i64 (tell why r).2.2])∧Below w.heap.size w w':=
 one_walk a0 a1 K caps w (tell why r) fun W B hb hB=>two_yes a0 a1 a0 a1 x x 210 #[.pointer (some ⟨B,0,none⟩)] why r W (enters_of Tryz.func210 (by kernel_rfl) rfl) hx hx (one_do K caps B W x x why r hE hB (hd.mono hb)) hs hn
end Go.Proofs.ZP
end
section
namespace Go.Proofs.ZQ
open Go.RowKit Go.Proofs.ZW.Wa Go.Proofs.ZP
theorem rr_one {a b:ByteArray} {x y:Rat} (h:RR a b x) (k:RR a b y):x=y:=Rat.ext (wtext_inj (h.num.symm.trans k.num)) (T_inj (h.den.symm.trans k.den))
noncomputable def twoF (why:Rat→Rat→Int) (op:Rat→Rat→Rat) (a0 a1 b0 b1:ByteArray):Option (ByteArray×ByteArray×Int):=by
 classical exact if h:(∃ x,RR a0 a1 x)∧∃ y,RR b0 b1 y then some (tell (why h.1.choose h.2.choose) (op h.1.choose h.2.choose)) else some (⟨#[]⟩,⟨#[]⟩,3)
noncomputable def oneF (why:Rat→Int) (op:Rat→Rat) (a0 a1:ByteArray):Option (ByteArray×ByteArray×Int):=by
 classical exact if h:∃ x,RR a0 a1 x then some (tell (why h.choose) (op h.choose)) else some (⟨#[]⟩,⟨#[]⟩,3)
theorem zbU {why:Rat→Rat→Int} {op:Rat→Rat→Rat} {a0 a1 b0 b1:ByteArray} {x y:Rat} (hx:RR a0 a1 x) (hy:RR b0 b1 y):twoF why op a0 a1 b0 b1=some (tell (why x y) (op x y)):=by
 have h:(∃ x,RR a0 a1 x)∧∃ y,RR b0 b1 y:=⟨⟨x,hx⟩,⟨y,hy⟩⟩
 unfold twoF
 rw [dif_pos h,←rr_one hx h.1.choose_spec,←rr_one hy h.2.choose_spec]
theorem zbG {why:Rat→Rat→Int} {op:Rat→Rat→Rat} {a0 a1 b0 b1:ByteArray} (h:¬ ((∃ x,RR a0 a1 x)∧∃ y,RR b0 b1 y)):twoF why op a0 a1 b0 b1=some (⟨#[]⟩,⟨#[]⟩,3):=by
 unfold twoF
 rw [dif_neg h]
theorem zcC {why:Rat→Int} {op:Rat→Rat} {a0 a1:ByteArray} {x:Rat} (hx:RR a0 a1 x):oneF why op a0 a1=some (tell (why x) (op x)):=by
 have h:∃ x,RR a0 a1 x:=⟨x,hx⟩
 unfold oneF
 rw [dif_pos h,←rr_one hx h.choose_spec]
theorem zc9 {why:Rat→Int} {op:Rat→Rat} {a0 a1:ByteArray} (h:¬ ∃ x,RR a0 a1 x):oneF why op a0 a1=some (⟨#[]⟩,⟨#[]⟩,3):=by
 unfold oneF
 rw [dif_neg h]
def Says (f:FuncId) (args:Array Value) (w:World) (tt:ByteArray×ByteArray×Int):Prop:=
 Calls Tryz.prog f args w fun e w'=>e = .returned (.tuple #[.agg #[.string tt.1,.string tt.2.1],.int .i64 tt.2.2])∧Below w.heap.size w w'
theorem start2 (w:World) (a0 a1 b0 b1:ByteArray):(((w.alloc (.cells #[.string a0,.string a1] 23)).alloc (.cells #[.string b0,.string b1] 23)).alloc (.cells #[.string ⟨#[]⟩,.string ⟨#[]⟩] 23)).heap[w.heap.size+1+1]? = some (.cells #[.string ⟨#[]⟩,.string ⟨#[]⟩] 23 (0,0)) ∧
  Below w.heap.size w (((w.alloc (.cells #[.string a0,.string a1] 23)).alloc (.cells #[.string b0,.string b1] 23)).alloc (.cells #[.string ⟨#[]⟩,.string ⟨#[]⟩] 23)):=by
 refine ⟨?_,zaa (zaa (zaa (Below.refl _ _) _) _) _⟩
 have:=zaA ((w.alloc (.cells #[.string a0,.string a1] 23)).alloc (.cells #[.string b0,.string b1] 23)) (.cells #[.string ⟨#[]⟩,.string ⟨#[]⟩] 23)
 simp only [World.size_alloc] at this
 exact this
theorem start1 (w:World) (a0 a1:ByteArray):((w.alloc (.cells #[.string a0,.string a1] 23)).alloc (.cells #[.string ⟨#[]⟩,.string ⟨#[]⟩] 23)).heap[w.heap.size+1]? = some (.cells #[.string ⟨#[]⟩,.string ⟨#[]⟩] 23 (0,0)) ∧
  Below w.heap.size w ((w.alloc (.cells #[.string a0,.string a1] 23)).alloc (.cells #[.string ⟨#[]⟩,.string ⟨#[]⟩] 23)):=by
 refine ⟨?_,zaa (zaa (Below.refl _ _) _) _⟩
 have:=zaA (w.alloc (.cells #[.string a0,.string a1] 23)) (.cells #[.string ⟨#[]⟩,.string ⟨#[]⟩] 23)
 simp only [World.size_alloc] at this
 exact this
theorem Add_do (w:World) (x y:Rat) (hsx:Bdr 2000 x) (hsy:Bdr 2000 y):TwoDo 122 #[] w x y 0 (x+y):=by
 intro W z gx gy hb h1 h2 h3 n1 n2 hz hx hy
 have HC:=Lib.hid (radd_calls z gx gy x y W hz.slot hx hy hsx hsy (by decide))
 change Calls Tryz.prog 122 #[.pointer (some ⟨z,0,none⟩),.pointer (some ⟨gx,0,none⟩),.pointer (some ⟨gy,0,none⟩)] W _
 clear hz hx hy hsx hsy hb h1 h2 h3 n1 n2
 go_enter Tryz.func122,Tryz.ntmps122
 go_wp2_with fail
 refine HC.out.mono ?_
 rintro e w1 ⟨rfl,hr,hu⟩
 have HR:=Lib.hid hr
 have HU:=Lib.hid hu
 clear hr hu HC
 go_wp2
 go_ret
 exact ⟨rfl,fun _=>HR.out,HU.out.keepB⟩
theorem Add_wrap (a0 a1 b0 b1:ByteArray) (w:World) (tt:ByteArray×ByteArray×Int) (hd:∀ W:World,Below w.heap.size w W→Says 121 #[.agg #[.string a0,.string a1],.agg #[.string b0,.string b1],.func (.func 122) #[] #[]] W tt):Says 44 #[.agg #[.string a0,.string a1],.agg #[.string b0,.string b1]] w tt:=by
 have HD:=Lib.hid hd
 clear hd
 unfold Says
 go_enter Tryz.func44,Tryz.ntmps44
 obtain ⟨hbk,hba⟩:=start2 w a0 a1 b0 b1
 go_wp2_with fail
 generalize (((w.alloc (.cells #[.string a0,.string a1] 23)).alloc (.cells #[.string b0,.string b1] 23)).alloc (.cells #[.string ⟨#[]⟩,.string ⟨#[]⟩] 23))=W0 at *
 generalize hBe:w.heap.size+1+1=B0 at *
 have HBE:=Lib.hid (show w.heap.size≤B0 by omega)
 clear hBe
 refine (HD.out _ hba).mono ?_
 rintro e w1 ⟨rfl,hb1⟩
 have hbk5:=(hb1.block _ (zaq hbk)).trans hbk
 have hB5:=bthen hba hb1
 have cB0:=(zaf hbk5 0).trans (show _=some (Value.string ⟨#[]⟩) from rfl)
 have cB1:=(zaf hbk5 1).trans (show _=some (Value.string ⟨#[]⟩) from rfl)
 have fB0:=zac hbk5 0
 have fB1:=zac hbk5 1
 have hs1:=zat hbk5 0 (.string tt.1)
 have hs2:=zat hs1 1 (.string tt.2.1)
 have HS2:=Lib.hid (hs2.trans (show _=some (Obj.cells #[.string tt.1,.string tt.2.1] 23 (0,0)) from rfl))
 have HBF:=Lib.hid (zag (zag (g:=B0) (j:=0) (v:=.string tt.1) hB5 HBE.out) (j:=1) (v:=.string tt.2.1) (g:=B0) HBE.out)
 clear hs1 hs2 hbk hbk5 hba hb1 HD
 go_wp2
 refine bodyPost_ret (zas rfl _ _ B0 23 #[.string tt.1,.string tt.2.1] (0,0) _ rfl HS2.out Tryz.underlying23 rfl (by kernel_rfl)) rfl ?_
 exact ⟨rfl,HBF.out⟩
noncomputable def rat_Add.f (a0_0 a0_1 a1_0 a1_1:ByteArray):Option (ByteArray×ByteArray×Int):=twoF (fun x y=>0) (fun x y=>x+y) a0_0 a0_1 a1_0 a1_1
theorem rat_Add.calls (a0 a1 b0 b1:ByteArray) (r1 r2:ByteArray) (r3:Int) (w:World) (h:rat_Add.f a0 a1 b0 b1=some (r1,r2,r3)) :
  Calls Tryz.prog 44 #[.agg #[.string a0,.string a1],.agg #[.string b0,.string b1]] w fun e w'=>e = .returned (.tuple #[.agg #[.string r1,.string r2],.int .i64 r3])∧Below w.heap.size w w':=by
 refine Add_wrap a0 a1 b0 b1 w (r1,r2,r3) (fun W _ => ?_)
 unfold rat_Add.f at h
 by_cases hh:(∃ x,RR a0 a1 x)∧∃ y,RR b0 b1 y
 ·obtain ⟨⟨x,hx⟩,⟨y,hy⟩⟩:=hh
  rw [zbU hx hy] at h
  rw [←Option.some.inj h]
  exact two_yes a0 a1 b0 b1 x y 122 #[] (0) (x+y) W (enters_of Tryz.func122 (by kernel_rfl) rfl) hx hy (Add_do W x y hx.bd hy.bd) (fun hw=>(hx.bd.add hy.bd).mono (by decide)) (n:=5000) (by decide)
 ·rw [zbG hh] at h
  rw [←Option.some.inj h]
  exact two_no a0 a1 b0 b1 122 #[] W hh
theorem Sub_do (w:World) (x y:Rat) (hsx:Bdr 2000 x) (hsy:Bdr 2000 y):TwoDo 150 #[] w x y 0 (x-y):=by
 intro W z gx gy hb h1 h2 h3 n1 n2 hz hx hy
 have HC:=Lib.hid (rsub_calls z gx gy x y W hz.slot hx hy hsx hsy (by decide))
 change Calls Tryz.prog 150 #[.pointer (some ⟨z,0,none⟩),.pointer (some ⟨gx,0,none⟩),.pointer (some ⟨gy,0,none⟩)] W _
 clear hz hx hy hsx hsy hb h1 h2 h3 n1 n2
 go_enter Tryz.func150,Tryz.ntmps150
 go_wp2_with fail
 refine HC.out.mono ?_
 rintro e w1 ⟨rfl,hr,hu⟩
 have HR:=Lib.hid hr
 have HU:=Lib.hid hu
 clear hr hu HC
 go_wp2
 go_ret
 exact ⟨rfl,fun _=>HR.out,HU.out.keepB⟩
theorem Sub_wrap (a0 a1 b0 b1:ByteArray) (w:World) (tt:ByteArray×ByteArray×Int) (hd:∀ W:World,Below w.heap.size w W→Says 121 #[.agg #[.string a0,.string a1],.agg #[.string b0,.string b1],.func (.func 150) #[] #[]] W tt):Says 68 #[.agg #[.string a0,.string a1],.agg #[.string b0,.string b1]] w tt:=by
 have HD:=Lib.hid hd
 clear hd
 unfold Says
 go_enter Tryz.func68,Tryz.ntmps68
 obtain ⟨hbk,hba⟩:=start2 w a0 a1 b0 b1
 go_wp2_with fail
 generalize (((w.alloc (.cells #[.string a0,.string a1] 23)).alloc (.cells #[.string b0,.string b1] 23)).alloc (.cells #[.string ⟨#[]⟩,.string ⟨#[]⟩] 23))=W0 at *
 generalize hBe:w.heap.size+1+1=B0 at *
 have HBE:=Lib.hid (show w.heap.size≤B0 by omega)
 clear hBe
 refine (HD.out _ hba).mono ?_
 rintro e w1 ⟨rfl,hb1⟩
 have hbk5:=(hb1.block _ (zaq hbk)).trans hbk
 have hB5:=bthen hba hb1
 have cB0:=(zaf hbk5 0).trans (show _=some (Value.string ⟨#[]⟩) from rfl)
 have cB1:=(zaf hbk5 1).trans (show _=some (Value.string ⟨#[]⟩) from rfl)
 have fB0:=zac hbk5 0
 have fB1:=zac hbk5 1
 have hs1:=zat hbk5 0 (.string tt.1)
 have hs2:=zat hs1 1 (.string tt.2.1)
 have HS2:=Lib.hid (hs2.trans (show _=some (Obj.cells #[.string tt.1,.string tt.2.1] 23 (0,0)) from rfl))
 have HBF:=Lib.hid (zag (zag (g:=B0) (j:=0) (v:=.string tt.1) hB5 HBE.out) (j:=1) (v:=.string tt.2.1) (g:=B0) HBE.out)
 clear hs1 hs2 hbk hbk5 hba hb1 HD
 go_wp2
 refine bodyPost_ret (zas rfl _ _ B0 23 #[.string tt.1,.string tt.2.1] (0,0) _ rfl HS2.out Tryz.underlying23 rfl (by kernel_rfl)) rfl ?_
 exact ⟨rfl,HBF.out⟩
noncomputable def rat_Sub.f (a0_0 a0_1 a1_0 a1_1:ByteArray):Option (ByteArray×ByteArray×Int):=twoF (fun x y=>0) (fun x y=>x-y) a0_0 a0_1 a1_0 a1_1
theorem rat_Sub.calls (a0 a1 b0 b1:ByteArray) (r1 r2:ByteArray) (r3:Int) (w:World) (h:rat_Sub.f a0 a1 b0 b1=some (r1,r2,r3)) :
  Calls Tryz.prog 68 #[.agg #[.string a0,.string a1],.agg #[.string b0,.string b1]] w fun e w'=>e = .returned (.tuple #[.agg #[.string r1,.string r2],.int .i64 r3])∧Below w.heap.size w w':=by
 refine Sub_wrap a0 a1 b0 b1 w (r1,r2,r3) (fun W _ => ?_)
 unfold rat_Sub.f at h
 by_cases hh:(∃ x,RR a0 a1 x)∧∃ y,RR b0 b1 y
 ·obtain ⟨⟨x,hx⟩,⟨y,hy⟩⟩:=hh
  rw [zbU hx hy] at h
  rw [←Option.some.inj h]
  exact two_yes a0 a1 b0 b1 x y 150 #[] (0) (x-y) W (enters_of Tryz.func150 (by kernel_rfl) rfl) hx hy (Sub_do W x y hx.bd hy.bd) (fun hw=>(hx.bd.sub hy.bd).mono (by decide)) (n:=5000) (by decide)
 ·rw [zbG hh] at h
  rw [←Option.some.inj h]
  exact two_no a0 a1 b0 b1 150 #[] W hh
theorem Mul_do (w:World) (x y:Rat) (hsx:Bdr 2000 x) (hsy:Bdr 2000 y):TwoDo 149 #[] w x y 0 (x*y):=by
 intro W z gx gy hb h1 h2 h3 n1 n2 hz hx hy
 have HC:=Lib.hid (zbs z gx gy x y W hz.slot hx hy hsx hsy (by decide))
 change Calls Tryz.prog 149 #[.pointer (some ⟨z,0,none⟩),.pointer (some ⟨gx,0,none⟩),.pointer (some ⟨gy,0,none⟩)] W _
 clear hz hx hy hsx hsy hb h1 h2 h3 n1 n2
 go_enter Tryz.func149,Tryz.ntmps149
 go_wp2_with fail
 refine HC.out.mono ?_
 rintro e w1 ⟨rfl,hr,hu⟩
 have HR:=Lib.hid hr
 have HU:=Lib.hid hu
 clear hr hu HC
 go_wp2
 go_ret
 exact ⟨rfl,fun _=>HR.out,HU.out.keepB⟩
theorem Mul_wrap (a0 a1 b0 b1:ByteArray) (w:World) (tt:ByteArray×ByteArray×Int) (hd:∀ W:World,Below w.heap.size w W→Says 121 #[.agg #[.string a0,.string a1],.agg #[.string b0,.string b1],.func (.func 149) #[] #[]] W tt):Says 67 #[.agg #[.string a0,.string a1],.agg #[.string b0,.string b1]] w tt:=by
 have HD:=Lib.hid hd
 clear hd
 unfold Says
 go_enter Tryz.func67,Tryz.ntmps67
 obtain ⟨hbk,hba⟩:=start2 w a0 a1 b0 b1
 go_wp2_with fail
 generalize (((w.alloc (.cells #[.string a0,.string a1] 23)).alloc (.cells #[.string b0,.string b1] 23)).alloc (.cells #[.string ⟨#[]⟩,.string ⟨#[]⟩] 23))=W0 at *
 generalize hBe:w.heap.size+1+1=B0 at *
 have HBE:=Lib.hid (show w.heap.size≤B0 by omega)
 clear hBe
 refine (HD.out _ hba).mono ?_
 rintro e w1 ⟨rfl,hb1⟩
 have hbk5:=(hb1.block _ (zaq hbk)).trans hbk
 have hB5:=bthen hba hb1
 have cB0:=(zaf hbk5 0).trans (show _=some (Value.string ⟨#[]⟩) from rfl)
 have cB1:=(zaf hbk5 1).trans (show _=some (Value.string ⟨#[]⟩) from rfl)
 have fB0:=zac hbk5 0
 have fB1:=zac hbk5 1
 have hs1:=zat hbk5 0 (.string tt.1)
 have hs2:=zat hs1 1 (.string tt.2.1)
 have HS2:=Lib.hid (hs2.trans (show _=some (Obj.cells #[.string tt.1,.string tt.2.1] 23 (0,0)) from rfl))
 have HBF:=Lib.hid (zag (zag (g:=B0) (j:=0) (v:=.string tt.1) hB5 HBE.out) (j:=1) (v:=.string tt.2.1) (g:=B0) HBE.out)
 clear hs1 hs2 hbk hbk5 hba hb1 HD
 go_wp2
 refine bodyPost_ret (zas rfl _ _ B0 23 #[.string tt.1,.string tt.2.1] (0,0) _ rfl HS2.out Tryz.underlying23 rfl (by kernel_rfl)) rfl ?_
 exact ⟨rfl,HBF.out⟩
noncomputable def rat_Mul.f (a0_0 a0_1 a1_0 a1_1:ByteArray):Option (ByteArray×ByteArray×Int):=twoF (fun x y=>0) (fun x y=>x*y) a0_0 a0_1 a1_0 a1_1
theorem rat_Mul.calls (a0 a1 b0 b1:ByteArray) (r1 r2:ByteArray) (r3:Int) (w:World) (h:rat_Mul.f a0 a1 b0 b1=some (r1,r2,r3)) :
  Calls Tryz.prog 67 #[.agg #[.string a0,.string a1],.agg #[.string b0,.string b1]] w fun e w'=>e = .returned (.tuple #[.agg #[.string r1,.string r2],.int .i64 r3])∧Below w.heap.size w w':=by
 refine Mul_wrap a0 a1 b0 b1 w (r1,r2,r3) (fun W _ => ?_)
 unfold rat_Mul.f at h
 by_cases hh:(∃ x,RR a0 a1 x)∧∃ y,RR b0 b1 y
 ·obtain ⟨⟨x,hx⟩,⟨y,hy⟩⟩:=hh
  rw [zbU hx hy] at h
  rw [←Option.some.inj h]
  exact two_yes a0 a1 b0 b1 x y 149 #[] (0) (x*y) W (enters_of Tryz.func149 (by kernel_rfl) rfl) hx hy (Mul_do W x y hx.bd hy.bd) (fun hw=>(hx.bd.mul hy.bd).mono (by decide)) (n:=5000) (by decide)
 ·rw [zbG hh] at h
  rw [←Option.some.inj h]
  exact two_no a0 a1 b0 b1 149 #[] W hh
theorem Neg_do (w:World) (x:Rat) (hsx:Bdr 2000 x):OneDo 153 #[] w x 0 (-x):=by
 intro W z gx hb h1 h2 n1 hz hx
 have HC:=Lib.hid (zcT z gx x W hz.slot hx hsx (by decide))
 change Calls Tryz.prog 153 #[.pointer (some ⟨z,0,none⟩),.pointer (some ⟨gx,0,none⟩)] W _
 clear hz hx hsx hb h1 h2 n1
 go_enter Tryz.func153,Tryz.ntmps153
 go_wp2_with fail
 refine HC.out.mono ?_
 rintro e w1 ⟨rfl,hr,hu⟩
 have HR:=Lib.hid hr
 have HU:=Lib.hid hu
 clear hr hu HC
 go_wp2
 go_ret
 exact ⟨rfl,fun _=>HR.out,HU.out.keepB⟩
theorem Neg_wrap (a0 a1:ByteArray) (w:World) (tt:ByteArray×ByteArray×Int) (hd:∀ W:World,Below w.heap.size w W→Says 132 #[.agg #[.string a0,.string a1],.func (.func 153) #[] #[]] W tt):Says 71 #[.agg #[.string a0,.string a1]] w tt:=by
 have HD:=Lib.hid hd
 clear hd
 unfold Says
 go_enter Tryz.func71,Tryz.ntmps71
 obtain ⟨hbk,hba⟩:=start1 w a0 a1
 go_wp2_with fail
 generalize ((w.alloc (.cells #[.string a0,.string a1] 23)).alloc (.cells #[.string ⟨#[]⟩,.string ⟨#[]⟩] 23))=W0 at *
 generalize hBe:w.heap.size+1=B0 at *
 have HBE:=Lib.hid (show w.heap.size≤B0 by omega)
 clear hBe
 refine (HD.out _ hba).mono ?_
 rintro e w1 ⟨rfl,hb1⟩
 have hbk5:=(hb1.block _ (zaq hbk)).trans hbk
 have hB5:=bthen hba hb1
 have cB0:=(zaf hbk5 0).trans (show _=some (Value.string ⟨#[]⟩) from rfl)
 have cB1:=(zaf hbk5 1).trans (show _=some (Value.string ⟨#[]⟩) from rfl)
 have fB0:=zac hbk5 0
 have fB1:=zac hbk5 1
 have hs1:=zat hbk5 0 (.string tt.1)
 have hs2:=zat hs1 1 (.string tt.2.1)
 have HS2:=Lib.hid (hs2.trans (show _=some (Obj.cells #[.string tt.1,.string tt.2.1] 23 (0,0)) from rfl))
 have HBF:=Lib.hid (zag (zag (g:=B0) (j:=0) (v:=.string tt.1) hB5 HBE.out) (j:=1) (v:=.string tt.2.1) (g:=B0) HBE.out)
 clear hs1 hs2 hbk hbk5 hba hb1 HD
 go_wp2
 refine bodyPost_ret (zas rfl _ _ B0 23 #[.string tt.1,.string tt.2.1] (0,0) _ rfl HS2.out Tryz.underlying23 rfl (by kernel_rfl)) rfl ?_
 exact ⟨rfl,HBF.out⟩
noncomputable def rat_Neg.f (a0_0 a0_1:ByteArray):Option (ByteArray×ByteArray×Int):=oneF (fun x=>0) (fun x => -x) a0_0 a0_1
theorem rat_Neg.calls (a0 a1:ByteArray) (r1 r2:ByteArray) (r3:Int) (w:World) (h:rat_Neg.f a0 a1=some (r1,r2,r3)) :
  Calls Tryz.prog 71 #[.agg #[.string a0,.string a1]] w fun e w'=>e = .returned (.tuple #[.agg #[.string r1,.string r2],.int .i64 r3])∧Below w.heap.size w w':=by
 refine Neg_wrap a0 a1 w (r1,r2,r3) (fun W _ => ?_)
 unfold rat_Neg.f at h
 by_cases hh:∃ x,RR a0 a1 x
 ·obtain ⟨x,hx⟩:=hh
  rw [zcC hx] at h
  rw [←Option.some.inj h]
  exact one_yes a0 a1 x 153 #[] (0) (-x) W (enters_of Tryz.func153 (by kernel_rfl) rfl) hx (Neg_do W x hx.bd) (fun hw=>hx.bd.neg.mono (by decide)) (n:=5000) (by decide)
 ·rw [zc9 hh] at h
  rw [←Option.some.inj h]
  exact one_no a0 a1 153 #[] W hh
theorem Quo_do (w:World) (x y:Rat) (hsx:Bdr 2000 x) (hsy:Bdr 2000 y):TwoDo 151 #[] w x y (if y=0 then 8 else 0) (x/y):=by
 intro W z gx gy hb h1 h2 h3 n1 n2 hz hx hy
 change Calls Tryz.prog 151 #[.pointer (some ⟨z,0,none⟩),.pointer (some ⟨gx,0,none⟩),.pointer (some ⟨gy,0,none⟩)] W _
 have HSg:=Lib.hid (zcf gy y W hy)
 by_cases h0:y=0
 ·rw [if_pos h0]
  have HN:=Lib.hid (show y.num.sign=0 by rw [h0]; rfl)
  clear hz hx hy hsx hsy hb h1 h2 h3 n1 n2 h0
  go_enter Tryz.func151,Tryz.ntmps151
  go_wp2_with fail
  refine HSg.out.mono ?_
  rintro e w1 ⟨rfl,rfl⟩
  rw [HN.out]
  go_wp2
  go_ret
  exact ⟨rfl,fun e=>absurd e (by decide),KeepB.refl _ _⟩
 ·have HC:=Lib.hid (rquo_calls z gx gy x y W hz.slot hx hy h0 hsx hsy (by decide))
  rw [if_neg h0]
  have HN:=Lib.hid (show y.num.sign≠0 from fun e=>h0 (Rat.num_eq_zero.1 (Int.sign_eq_zero_iff_zero.1 e)))
  clear hz hx hy hsx hsy hb h1 h2 h3 n1 n2 h0
  go_enter Tryz.func151,Tryz.ntmps151
  go_wp2_with fail
  refine HSg.out.mono ?_
  rintro e w1 ⟨rfl,rfl⟩
  have hs0:=HN.out
  generalize y.num.sign=sg0 at hs0 ⊢
  go_wp2_with fail
  refine HC.out.mono ?_
  rintro e w1 ⟨rfl,hr,hu⟩
  have HR:=Lib.hid hr
  have HU:=Lib.hid hu
  clear hr hu HC
  go_wp2
  go_ret
  exact ⟨rfl,fun _=>HR.out,HU.out.keepB⟩
theorem Quo_wrap (a0 a1 b0 b1:ByteArray) (w:World) (tt:ByteArray×ByteArray×Int) (hd:∀ W:World,Below w.heap.size w W→Says 121 #[.agg #[.string a0,.string a1],.agg #[.string b0,.string b1],.func (.func 151) #[] #[]] W tt):Says 70 #[.agg #[.string a0,.string a1],.agg #[.string b0,.string b1]] w tt:=by
 have HD:=Lib.hid hd
 clear hd
 unfold Says
 go_enter Tryz.func70,Tryz.ntmps70
 obtain ⟨hbk,hba⟩:=start2 w a0 a1 b0 b1
 go_wp2_with fail
 generalize (((w.alloc (.cells #[.string a0,.string a1] 23)).alloc (.cells #[.string b0,.string b1] 23)).alloc (.cells #[.string ⟨#[]⟩,.string ⟨#[]⟩] 23))=W0 at *
 generalize hBe:w.heap.size+1+1=B0 at *
 have HBE:=Lib.hid (show w.heap.size≤B0 by omega)
 clear hBe
 refine (HD.out _ hba).mono ?_
 rintro e w1 ⟨rfl,hb1⟩
 have hbk5:=(hb1.block _ (zaq hbk)).trans hbk
 have hB5:=bthen hba hb1
 have cB0:=(zaf hbk5 0).trans (show _=some (Value.string ⟨#[]⟩) from rfl)
 have cB1:=(zaf hbk5 1).trans (show _=some (Value.string ⟨#[]⟩) from rfl)
 have fB0:=zac hbk5 0
 have fB1:=zac hbk5 1
 have hs1:=zat hbk5 0 (.string tt.1)
 have hs2:=zat hs1 1 (.string tt.2.1)
 have HS2:=Lib.hid (hs2.trans (show _=some (Obj.cells #[.string tt.1,.string tt.2.1] 23 (0,0)) from rfl))
 have HBF:=Lib.hid (zag (zag (g:=B0) (j:=0) (v:=.string tt.1) hB5 HBE.out) (j:=1) (v:=.string tt.2.1) (g:=B0) HBE.out)
 clear hs1 hs2 hbk hbk5 hba hb1 HD
 go_wp2
 refine bodyPost_ret (zas rfl _ _ B0 23 #[.string tt.1,.string tt.2.1] (0,0) _ rfl HS2.out Tryz.underlying23 rfl (by kernel_rfl)) rfl ?_
 exact ⟨rfl,HBF.out⟩
noncomputable def rat_Quo.f (a0_0 a0_1 a1_0 a1_1:ByteArray):Option (ByteArray×ByteArray×Int):=twoF (fun x y=>if y=0 then 8 else 0) (fun x y=>x/y) a0_0 a0_1 a1_0 a1_1
theorem rat_Quo.calls (a0 a1 b0 b1:ByteArray) (r1 r2:ByteArray) (r3:Int) (w:World) (h:rat_Quo.f a0 a1 b0 b1=some (r1,r2,r3)) :
  Calls Tryz.prog 70 #[.agg #[.string a0,.string a1],.agg #[.string b0,.string b1]] w fun e w'=>e = .returned (.tuple #[.agg #[.string r1,.string r2],.int .i64 r3])∧Below w.heap.size w w':=by
 refine Quo_wrap a0 a1 b0 b1 w (r1,r2,r3) (fun W _ => ?_)
 unfold rat_Quo.f at h
 by_cases hh:(∃ x,RR a0 a1 x)∧∃ y,RR b0 b1 y
 ·obtain ⟨⟨x,hx⟩,⟨y,hy⟩⟩:=hh
  rw [zbU hx hy] at h
  rw [←Option.some.inj h]
  exact two_yes a0 a1 b0 b1 x y 151 #[] (if y=0 then 8 else 0) (x/y) W (enters_of Tryz.func151 (by kernel_rfl) rfl) hx hy (Quo_do W x y hx.bd hy.bd) (fun hw=>by by_cases h0:y=0; (rw [if_pos h0] at hw; exact absurd hw (by decide)); exact (hx.bd.div hy.bd h0).mono (by decide)) (n:=5000) (by decide)
 ·rw [zbG hh] at h
  rw [←Option.some.inj h]
  exact two_no a0 a1 b0 b1 151 #[] W hh
theorem Inv_do (w:World) (x:Rat) (hsx:Bdr 2000 x):OneDo 161 #[] w x (if x=0 then 8 else 0) (x⁻¹):=by
 intro W z gx hb h1 h2 n1 hz hx
 change Calls Tryz.prog 161 #[.pointer (some ⟨z,0,none⟩),.pointer (some ⟨gx,0,none⟩)] W _
 have HSg:=Lib.hid (zcf gx x W hx)
 by_cases h0:x=0
 ·rw [if_pos h0]
  have HN:=Lib.hid (show x.num.sign=0 by rw [h0]; rfl)
  clear hz hx hsx hb h1 h2 n1 h0
  go_enter Tryz.func161,Tryz.ntmps161
  go_wp2_with fail
  refine HSg.out.mono ?_
  rintro e w1 ⟨rfl,rfl⟩
  rw [HN.out]
  go_wp2
  go_ret
  exact ⟨rfl,fun e=>absurd e (by decide),KeepB.refl _ _⟩
 ·have HC:=Lib.hid (inv_calls z gx x W hz.slot hx h0 hsx (by decide))
  rw [if_neg h0]
  have HN:=Lib.hid (show x.num.sign≠0 from fun e=>h0 (Rat.num_eq_zero.1 (Int.sign_eq_zero_iff_zero.1 e)))
  clear hz hx hsx hb h1 h2 n1 h0
  go_enter Tryz.func161,Tryz.ntmps161
  go_wp2_with fail
  refine HSg.out.mono ?_
  rintro e w1 ⟨rfl,rfl⟩
  have hs0:=HN.out
  generalize x.num.sign=sg0 at hs0 ⊢
  go_wp2_with fail
  refine HC.out.mono ?_
  rintro e w1 ⟨rfl,hr,hu⟩
  have HR:=Lib.hid hr
  have HU:=Lib.hid hu
  clear hr hu HC
  go_wp2
  go_ret
  exact ⟨rfl,fun _=>HR.out,HU.out.keepB⟩
theorem Inv_wrap (a0 a1:ByteArray) (w:World) (tt:ByteArray×ByteArray×Int) (hd:∀ W:World,Below w.heap.size w W→Says 132 #[.agg #[.string a0,.string a1],.func (.func 161) #[] #[]] W tt):Says 77 #[.agg #[.string a0,.string a1]] w tt:=by
 have HD:=Lib.hid hd
 clear hd
 unfold Says
 go_enter Tryz.func77,Tryz.ntmps77
 obtain ⟨hbk,hba⟩:=start1 w a0 a1
 go_wp2_with fail
 generalize ((w.alloc (.cells #[.string a0,.string a1] 23)).alloc (.cells #[.string ⟨#[]⟩,.string ⟨#[]⟩] 23))=W0 at *
 generalize hBe:w.heap.size+1=B0 at *
 have HBE:=Lib.hid (show w.heap.size≤B0 by omega)
 clear hBe
 refine (HD.out _ hba).mono ?_
 rintro e w1 ⟨rfl,hb1⟩
 have hbk5:=(hb1.block _ (zaq hbk)).trans hbk
 have hB5:=bthen hba hb1
 have cB0:=(zaf hbk5 0).trans (show _=some (Value.string ⟨#[]⟩) from rfl)
 have cB1:=(zaf hbk5 1).trans (show _=some (Value.string ⟨#[]⟩) from rfl)
 have fB0:=zac hbk5 0
 have fB1:=zac hbk5 1
 have hs1:=zat hbk5 0 (.string tt.1)
 have hs2:=zat hs1 1 (.string tt.2.1)
 have HS2:=Lib.hid (hs2.trans (show _=some (Obj.cells #[.string tt.1,.string tt.2.1] 23 (0,0)) from rfl))
 have HBF:=Lib.hid (zag (zag (g:=B0) (j:=0) (v:=.string tt.1) hB5 HBE.out) (j:=1) (v:=.string tt.2.1) (g:=B0) HBE.out)
 clear hs1 hs2 hbk hbk5 hba hb1 HD
 go_wp2
 refine bodyPost_ret (zas rfl _ _ B0 23 #[.string tt.1,.string tt.2.1] (0,0) _ rfl HS2.out Tryz.underlying23 rfl (by kernel_rfl)) rfl ?_
 exact ⟨rfl,HBF.out⟩
noncomputable def rat_Inv.f (a0_0 a0_1:ByteArray):Option (ByteArray×ByteArray×Int):=oneF (fun x=>if x=0 then 8 else 0) (fun x=>x⁻¹) a0_0 a0_1
theorem rat_Inv.calls (a0 a1:ByteArray) (r1 r2:ByteArray) (r3:Int) (w:World) (h:rat_Inv.f a0 a1=some (r1,r2,r3)) :
  Calls Tryz.prog 77 #[.agg #[.string a0,.string a1]] w fun e w'=>e = .returned (.tuple #[.agg #[.string r1,.string r2],.int .i64 r3])∧Below w.heap.size w w':=by
 refine Inv_wrap a0 a1 w (r1,r2,r3) (fun W _ => ?_)
 unfold rat_Inv.f at h
 by_cases hh:∃ x,RR a0 a1 x
 ·obtain ⟨x,hx⟩:=hh
  rw [zcC hx] at h
  rw [←Option.some.inj h]
  exact one_yes a0 a1 x 161 #[] (if x=0 then 8 else 0) (x⁻¹) W (enters_of Tryz.func161 (by kernel_rfl) rfl) hx (Inv_do W x hx.bd) (fun hw=>by by_cases h0:x=0; (rw [if_pos h0] at hw; exact absurd hw (by decide)); exact (hx.bd.inv h0).mono (by decide)) (n:=5000) (by decide)
 ·rw [zc9 hh] at h
  rw [←Option.some.inj h]
  exact one_no a0 a1 161 #[] W hh
end Go.Proofs.ZQ
end
section
namespace Go.Proofs.ZQ
open Go.RowKit Go.Proofs.ZW.Wa Go.Proofs.ZP Go.Proofs.ZW.Wb Go.Proofs.ZW.Wc
def FrAt (w:World) (b:Nat) (s:Bool) (x y:ByteArray):Prop:=w.heap[b]? = some (.cells #[.bool s,.string x,.string y] 66 (0,0))
theorem FrAt.c0 {w:World} {b:Nat} {s:Bool} {x y:ByteArray} (h:FrAt w b s x y):w.cell? ⟨b,0,none⟩=some (.bool s):=(zaf h 0).trans rfl
theorem FrAt.c1 {w:World} {b:Nat} {s:Bool} {x y:ByteArray} (h:FrAt w b s x y):w.cell? ⟨b,1,none⟩=some (.string x):=(zaf h 1).trans rfl
theorem FrAt.c2 {w:World} {b:Nat} {s:Bool} {x y:ByteArray} (h:FrAt w b s x y):w.cell? ⟨b,2,none⟩=some (.string y):=(zaf h 2).trans rfl
theorem FrAt.below {w w':World} {b:Nat} {s:Bool} {x y:ByteArray} (h:FrAt w b s x y) (hb:Below w.heap.size w w'):FrAt w' b s x y:=(hb.block _ (zaq h)).trans h
theorem FrAt.keep {w w':World} {b n:Nat} {s:Bool} {x y:ByteArray} (h:FrAt w b s x y) (hb:Below n w w') (hn:b<n):FrAt w' b s x y:=(hb.block _ hn).trans h
theorem FrAt.new (w:World) (s:Bool) (x y:ByteArray):FrAt (w.alloc (.cells #[.bool s,.string x,.string y] 66)) w.heap.size s x y:=zaA w _
theorem FrAt.alloc {w:World} {b:Nat} {s:Bool} {x y:ByteArray} (h:FrAt w b s x y) (o:Obj):FrAt (w.alloc o) b s x y:=h.below (zaa (Below.refl _ _) _)
theorem fr_put {w w2:World} {D:Nat} {s:Bool} {x y:ByteArray} (f:FrAt w2 D s x y) (hb:Below w.heap.size w w2) (hD:w.heap.size≤D) (t:Bool) (u v:ByteArray):FrAt (((w2.setCell ⟨D,0,none⟩ (.bool t)).setCell ⟨D,1,none⟩ (.string u)).setCell ⟨D,2,none⟩ (.string v)) D t u v∧Below w.heap.size w (((w2.setCell ⟨D,0,none⟩ (.bool t)).setCell ⟨D,1,none⟩ (.string u)).setCell ⟨D,2,none⟩ (.string v)):=
 ⟨(zat (zat (zat f 0 (.bool t)) 1 (.string u)) 2 (.string v)).trans rfl,zag (zag (zag hb hD) hD) hD⟩
theorem fr_three (w:World) (s t u:Bool) (a b c d e f:ByteArray):FrAt (((w.alloc (.cells #[.bool s,.string a,.string b] 66)).alloc (.cells #[.bool t,.string c,.string d] 66)).alloc (.cells #[.bool u,.string e,.string f] 66)) w.heap.size s a b ∧
  FrAt (((w.alloc (.cells #[.bool s,.string a,.string b] 66)).alloc (.cells #[.bool t,.string c,.string d] 66)).alloc (.cells #[.bool u,.string e,.string f] 66)) (w.heap.size+1) t c d ∧
  FrAt (((w.alloc (.cells #[.bool s,.string a,.string b] 66)).alloc (.cells #[.bool t,.string c,.string d] 66)).alloc (.cells #[.bool u,.string e,.string f] 66)) (w.heap.size+1+1) u e f ∧
  Below w.heap.size w (((w.alloc (.cells #[.bool s,.string a,.string b] 66)).alloc (.cells #[.bool t,.string c,.string d] 66)).alloc (.cells #[.bool u,.string e,.string f] 66)):=by
 refine ⟨((FrAt.new w s a b).alloc _).alloc _,?_,?_,zaa (zaa (zaa (Below.refl _ _) _) _) _⟩
 ·have h:=(FrAt.new (w.alloc (.cells #[.bool s,.string a,.string b] 66)) t c d).alloc (.cells #[.bool u,.string e,.string f] 66)
  rw [World.size_alloc] at h
  exact h
 ·have h:=FrAt.new ((w.alloc (.cells #[.bool s,.string a,.string b] 66)).alloc (.cells #[.bool t,.string c,.string d] 66)) u e f
  rw [World.size_alloc,World.size_alloc] at h
  exact h
theorem fr_two (w:World) (s t:Bool) (a b c d:ByteArray):FrAt ((w.alloc (.cells #[.bool s,.string a,.string b] 66)).alloc (.cells #[.bool t,.string c,.string d] 66)) w.heap.size s a b ∧
  FrAt ((w.alloc (.cells #[.bool s,.string a,.string b] 66)).alloc (.cells #[.bool t,.string c,.string d] 66)) (w.heap.size+1) t c d ∧
  Below w.heap.size w ((w.alloc (.cells #[.bool s,.string a,.string b] 66)).alloc (.cells #[.bool t,.string c,.string d] 66)):=
 ⟨(FrAt.new w s a b).alloc _,by
  have h:=FrAt.new (w.alloc (.cells #[.bool s,.string a,.string b] 66)) t c d
  rw [World.size_alloc] at h
  exact h,zaa (zaa (Below.refl _ _) _) _⟩
noncomputable def c2_Plus.f (a0_0:Bool) (a0_1:ByteArray) (a0_2:ByteArray) (a1_0:Bool) (a1_1:ByteArray) (a1_2:ByteArray):Option (Bool×ByteArray×ByteArray):=(c1_Times.f a0_1 a1_2).bind fun t601=>((c1_Times.f a1_1 a0_2).bind fun t602=>((c1_Times.f a0_2 a1_2).bind fun t603=>(if (a0_0 == a1_0)=true then ((c1_Plus.f t601 t602).bind fun t604=>((c2_Lowest.f a0_0 t604 t603).bind fun bt605=>(some (bt605.1,bt605.2.1,bt605.2.2)))) else ((c1_Compare.f t601 t602).bind fun t608=>(if t608≥0 then ((c1_Minus.f t601 t602).bind fun t609=>((c2_Lowest.f a0_0 t609 t603).bind fun bt610=>(some (bt610.1,bt610.2.1,bt610.2.2)))) else ((c1_Minus.f t602 t601).bind fun t613=>((c2_Lowest.f a1_0 t613 t603).bind fun bt614=>(some (bt614.1,bt614.2.1,bt614.2.2)))))))))
theorem c2_Plus.calls (a0_0:Bool) (a0_1:ByteArray) (a0_2:ByteArray) (a1_0:Bool) (a1_1:ByteArray) (a1_2:ByteArray) (r1:Bool) (r2:ByteArray) (r3:ByteArray) (w:World) (h:c2_Plus.f a0_0 a0_1 a0_2 a1_0 a1_1 a1_2=some (r1,r2,r3)) :
  Calls Tryz.prog 60 #[.agg #[.bool a0_0,.string a0_1,.string a0_2],.agg #[.bool a1_0,.string a1_1,.string a1_2]] w fun e w'=>e = .returned (.agg #[.bool r1,.string r2,.string r3])∧Below w.heap.size w w':=by
 unfold c2_Plus.f at h
 obtain ⟨x,hx,h2⟩:=Option.bind_eq_some_iff.1 h
 obtain ⟨y,hy,h3⟩:=Option.bind_eq_some_iff.1 h2
 obtain ⟨d,hd,h4⟩:=Option.bind_eq_some_iff.1 h3
 have HX:=Lib.hid (fun W=>c1_Times.calls a0_1 a1_2 x W hx)
 have HY:=Lib.hid (fun W=>c1_Times.calls a1_1 a0_2 y W hy)
 have HD:=Lib.hid (fun W=>c1_Times.calls a0_2 a1_2 d W hd)
 have H:=Lib.hid h4
 clear h h2 h3 h4 hx hy hd
 go_enter Tryz.func60,Tryz.ntmps60
 obtain ⟨fa,fb,fr,hba⟩:=fr_three w a0_0 a1_0 false a0_1 a0_2 a1_1 a1_2 ⟨#[]⟩ ⟨#[]⟩
 go_wp2_with fail
 generalize (((w.alloc (.cells #[.bool a0_0,.string a0_1,.string a0_2] 66)).alloc (.cells #[.bool a1_0,.string a1_1,.string a1_2] 66)).alloc (.cells #[.bool false,.string ⟨#[]⟩,.string ⟨#[]⟩] 66))=W0 at *
 generalize hBx:w.heap.size+1=X0 at *
 generalize hBe:X0+1=B0 at *
 have HBE:=Lib.hid (show w.heap.size≤B0 by omega)
 have HLT:=Lib.hid (show w.heap.size<B0∧X0<B0 by omega)
 have HK:=Lib.hid (show ∀ W':World,Below W0.heap.size W0 W'→W'.cell? ⟨w.heap.size,1,none⟩=some (.string a0_1)∧W'.cell? ⟨w.heap.size,2,none⟩=some (.string a0_2)∧W'.cell? ⟨X0,1,none⟩=some (.string a1_1)∧W'.cell? ⟨X0,2,none⟩=some (.string a1_2) from fun W' h=>⟨(fa.below h).c1,(fa.below h).c2,(fb.below h).c1,(fb.below h).c2⟩)
 clear hBe hBx
 have HLE:=Lib.hid (show B0≤W0.heap.size from Nat.le_of_lt (zaq fr))
 have HFA:=Lib.hid fa
 have HFB:=Lib.hid fb
 have HFR:=Lib.hid fr
 have HBA:=Lib.hid hba
 clear fa fb fr hba
 go_region_held3 (fun w'=>w'.cell? ⟨w.heap.size,1,none⟩=some (.string a0_1)∧w'.cell? ⟨w.heap.size,2,none⟩=some (.string a0_2)∧w'.cell? ⟨X0,1,none⟩=some (.string a1_1)∧w'.cell? ⟨X0,2,none⟩=some (.string a1_2))
  (exact HK.out _ (by repeat (with_reducible first|exact Below.refl _ _|apply zan|apply zab|refine bthen ?_ hb3|refine bthen ?_ hb2|refine bthen ?_ hb1)))
  ((first
   | (go_simp; go_at_call 131; (with_reducible change Calls _ _ #[.string a0_1,.string a1_2] _ _); refine (HX.out _).mono ?_; rintro e w1 ⟨rfl,hb1⟩)
   | (go_simp; go_at_call 131; (with_reducible change Calls _ _ #[.string a1_1,.string a0_2] _ _); refine (HY.out _).mono ?_; rintro e w2 ⟨rfl,hb2⟩)
   | (go_simp; go_at_call 131; (with_reducible change Calls _ _ #[.string a0_2,.string a1_2] _ _); refine (HD.out _).mono ?_; rintro e w3 ⟨rfl,hb3⟩)))
 rename_i hHeld
 clear hHeld
 have HB3:=Lib.hid (show Below W0.heap.size W0 w3 from by repeat (with_reducible first|exact Below.refl _ _|apply zan|apply zab|refine bthen ?_ hb3|refine bthen ?_ hb2|refine bthen ?_ hb1))
 clear hb1 hb2 hb3 HX HY HD HK
 have q0:=(HFA.out.below HB3.out).c0
 have q1:=(HFB.out.below HB3.out).c0
 have HQ:=Lib.hid (show ∀ W':World,Below W0.heap.size W0 W'→W'.cell? ⟨w.heap.size,0,none⟩=some (.bool a0_0)∧W'.cell? ⟨X0,0,none⟩=some (.bool a1_0) from fun W' h=>⟨(HFA.out.below h).c0,(HFB.out.below h).c0⟩)
 have HQS:=Lib.hid (show ∀ (W':World) (u v t:Value),Below W0.heap.size W0 W'→(((W'.setCell ⟨B0,0,none⟩ u).setCell ⟨B0,1,none⟩ v).setCell ⟨B0,2,none⟩ t).cell? ⟨w.heap.size,0,none⟩=some (.bool a0_0)∧(((W'.setCell ⟨B0,0,none⟩ u).setCell ⟨B0,1,none⟩ v).setCell ⟨B0,2,none⟩ t).cell? ⟨X0,0,none⟩=some (.bool a1_0) from fun W' u v t h =>
  have k:=Below.setCell (p:=⟨B0,2,none⟩) (Below.setCell (p:=⟨B0,1,none⟩) (Below.setCell (p:=⟨B0,0,none⟩) (h.mono HLE.out) (Nat.le_refl _) u) (Nat.le_refl _) v) (Nat.le_refl _) t
  ⟨(HFA.out.keep k HLT.out.1).c0,(HFB.out.keep k HLT.out.2).c0⟩)
 by_cases hs:(a0_0 == a1_0)=true
 ·obtain ⟨t,ht,h⟩:=Option.bind_eq_some_iff.1 ((if_pos hs).symm.trans H.out)
  obtain ⟨⟨l0,l1,l2⟩,hl,h⟩:=Option.bind_eq_some_iff.1 h
  cases h
  have HT:=Lib.hid (fun W=>c1_Plus.calls x y t W ht)
  have HL:=Lib.hid (fun W=>c2_Lowest.calls a0_0 t d l0 l1 l2 W hl)
  clear ht hl H
  go_wp2_with fail
  go_region_held3 (fun w'=>w'.cell? ⟨w.heap.size,0,none⟩=some (.bool a0_0)∧w'.cell? ⟨X0,0,none⟩=some (.bool a1_0))
   (first|(with_reducible refine HQS.out _ _ _ _ ?_; repeat (with_reducible first|exact Below.refl _ _|exact HB3.out|apply zan|apply zab|refine bthen ?_ hb5|refine bthen ?_ hb4|refine bthen ?_ hb6))|(with_reducible refine HQ.out _ ?_; repeat (with_reducible first|exact Below.refl _ _|exact HB3.out|apply zan|apply zab|refine bthen ?_ hb5|refine bthen ?_ hb4|refine bthen ?_ hb6)))
   ((first
    | (go_simp; go_at_call 129; refine (HT.out _).mono ?_; rintro e w4 ⟨rfl,hb4⟩)
    | (go_simp; go_at_call 111; refine (HL.out _).mono ?_; rintro e w5 ⟨rfl,hb5⟩; have fr5:=HFR.out.below (show Below W0.heap.size W0 w5 from (by repeat (with_reducible first|exact Below.refl _ _|exact HB3.out|apply zan|apply zab|refine bthen ?_ hb5|refine bthen ?_ hb4|refine bthen ?_ hb6))); have cB0:=fr5.c0; have cB1:=fr5.c1; have cB2:=fr5.c2; have fB0:=zac fr5 0; have fB1:=zac fr5 1; have fB2:=zac fr5 2)))
  have hs1:=zat fr5 0 (.bool l0)
  have hs2:=zat hs1 1 (.string l1)
  have hs3:=zat hs2 2 (.string l2)
  have HS3:=Lib.hid (hs3.trans (show _=some (Obj.cells #[.bool l0,.string l1,.string l2] 66 (0,0)) from rfl))
  have HBF:=Lib.hid (zag (zag (zag (g:=B0) (j:=0) (v:=.bool l0) (bthen HBA.out (show Below W0.heap.size W0 w5 from (by repeat (with_reducible first|exact Below.refl _ _|exact HB3.out|apply zan|apply zab|refine bthen ?_ hb5|refine bthen ?_ hb4|refine bthen ?_ hb6)))) HBE.out) (j:=1) (v:=.string l1) (g:=B0) HBE.out) (j:=2) (v:=.string l2) (g:=B0) HBE.out)
  clear hs1 hs2 hs3 fr5 cB0 cB1 cB2 fB0 fB1 fB2 hb4 hb5
  go_wp2
  refine bodyPost_ret (results_cell_row rfl _ _ B0 66 #[.bool l0,.string l1,.string l2] (0,0) _ rfl HS3.out Tryz.underlying66 rfl (by kernel_rfl)) rfl ?_
  exact ⟨rfl,HBF.out⟩
 ·obtain ⟨c,hc,h⟩:=Option.bind_eq_some_iff.1 ((if_neg hs).symm.trans H.out)
  have HCc:=Lib.hid (fun W=>c1_Compare.calls x y c W hc)
  have hs':(a0_0 == a1_0)=false:=by simpa using hs
  clear hc hs H
  go_wp2_with fail
  refine (HCc.out _).mono ?_
  rintro e w6 ⟨rfl,hb6⟩
  by_cases hg:c≥0
  ·obtain ⟨t,ht,h⟩:=Option.bind_eq_some_iff.1 ((if_pos hg).symm.trans h)
   obtain ⟨⟨l0,l1,l2⟩,hl,h⟩:=Option.bind_eq_some_iff.1 h
   cases h
   have HT:=Lib.hid (fun W=>c1_Minus.calls x y t W ht)
   have HL:=Lib.hid (fun W=>c2_Lowest.calls a0_0 t d l0 l1 l2 W hl)
   clear ht hl HCc
   go_wp2_with fail
   go_region_held3 (fun w'=>w'.cell? ⟨w.heap.size,0,none⟩=some (.bool a0_0)∧w'.cell? ⟨X0,0,none⟩=some (.bool a1_0))
    (first|(with_reducible refine HQS.out _ _ _ _ ?_; repeat (with_reducible first|exact Below.refl _ _|exact HB3.out|apply zan|apply zab|refine bthen ?_ hb5|refine bthen ?_ hb4|refine bthen ?_ hb6))|(with_reducible refine HQ.out _ ?_; repeat (with_reducible first|exact Below.refl _ _|exact HB3.out|apply zan|apply zab|refine bthen ?_ hb5|refine bthen ?_ hb4|refine bthen ?_ hb6)))
    ((first
     | (go_simp; go_at_call 130; refine (HT.out _).mono ?_; rintro e w4 ⟨rfl,hb4⟩)
     | (go_simp; go_at_call 111; refine (HL.out _).mono ?_; rintro e w5 ⟨rfl,hb5⟩; have fr5:=HFR.out.below (show Below W0.heap.size W0 w5 from (by repeat (with_reducible first|exact Below.refl _ _|exact HB3.out|apply zan|apply zab|refine bthen ?_ hb5|refine bthen ?_ hb4|refine bthen ?_ hb6))); have cB0:=fr5.c0; have cB1:=fr5.c1; have cB2:=fr5.c2; have fB0:=zac fr5 0; have fB1:=zac fr5 1; have fB2:=zac fr5 2)))
   have hs1:=zat fr5 0 (.bool l0)
   have hs2:=zat hs1 1 (.string l1)
   have hs3:=zat hs2 2 (.string l2)
   have HS3:=Lib.hid (hs3.trans (show _=some (Obj.cells #[.bool l0,.string l1,.string l2] 66 (0,0)) from rfl))
   have HBF:=Lib.hid (zag (zag (zag (g:=B0) (j:=0) (v:=.bool l0) (bthen HBA.out (show Below W0.heap.size W0 w5 from (by repeat (with_reducible first|exact Below.refl _ _|exact HB3.out|apply zan|apply zab|refine bthen ?_ hb5|refine bthen ?_ hb4|refine bthen ?_ hb6)))) HBE.out) (j:=1) (v:=.string l1) (g:=B0) HBE.out) (j:=2) (v:=.string l2) (g:=B0) HBE.out)
   clear hs1 hs2 hs3 fr5 cB0 cB1 cB2 fB0 fB1 fB2 hb4 hb5
   go_wp2
   refine bodyPost_ret (results_cell_row rfl _ _ B0 66 #[.bool l0,.string l1,.string l2] (0,0) _ rfl HS3.out Tryz.underlying66 rfl (by kernel_rfl)) rfl ?_
   exact ⟨rfl,HBF.out⟩
  ·obtain ⟨t,ht,h⟩:=Option.bind_eq_some_iff.1 ((if_neg hg).symm.trans h)
   obtain ⟨⟨l0,l1,l2⟩,hl,h⟩:=Option.bind_eq_some_iff.1 h
   cases h
   have HT:=Lib.hid (fun W=>c1_Minus.calls y x t W ht)
   have HL:=Lib.hid (fun W=>c2_Lowest.calls a1_0 t d l0 l1 l2 W hl)
   clear ht hl HCc
   go_wp2_with fail
   go_region_held3 (fun w'=>w'.cell? ⟨w.heap.size,0,none⟩=some (.bool a0_0)∧w'.cell? ⟨X0,0,none⟩=some (.bool a1_0))
    (first|(with_reducible refine HQS.out _ _ _ _ ?_; repeat (with_reducible first|exact Below.refl _ _|exact HB3.out|apply zan|apply zab|refine bthen ?_ hb5|refine bthen ?_ hb4|refine bthen ?_ hb6))|(with_reducible refine HQ.out _ ?_; repeat (with_reducible first|exact Below.refl _ _|exact HB3.out|apply zan|apply zab|refine bthen ?_ hb5|refine bthen ?_ hb4|refine bthen ?_ hb6)))
    ((first
     | (go_simp; go_at_call 130; refine (HT.out _).mono ?_; rintro e w4 ⟨rfl,hb4⟩)
     | (go_simp; go_at_call 111; refine (HL.out _).mono ?_; rintro e w5 ⟨rfl,hb5⟩; have fr5:=HFR.out.below (show Below W0.heap.size W0 w5 from (by repeat (with_reducible first|exact Below.refl _ _|exact HB3.out|apply zan|apply zab|refine bthen ?_ hb5|refine bthen ?_ hb4|refine bthen ?_ hb6))); have cB0:=fr5.c0; have cB1:=fr5.c1; have cB2:=fr5.c2; have fB0:=zac fr5 0; have fB1:=zac fr5 1; have fB2:=zac fr5 2)))
   have hs1:=zat fr5 0 (.bool l0)
   have hs2:=zat hs1 1 (.string l1)
   have hs3:=zat hs2 2 (.string l2)
   have HS3:=Lib.hid (hs3.trans (show _=some (Obj.cells #[.bool l0,.string l1,.string l2] 66 (0,0)) from rfl))
   have HBF:=Lib.hid (zag (zag (zag (g:=B0) (j:=0) (v:=.bool l0) (bthen HBA.out (show Below W0.heap.size W0 w5 from (by repeat (with_reducible first|exact Below.refl _ _|exact HB3.out|apply zan|apply zab|refine bthen ?_ hb5|refine bthen ?_ hb4|refine bthen ?_ hb6)))) HBE.out) (j:=1) (v:=.string l1) (g:=B0) HBE.out) (j:=2) (v:=.string l2) (g:=B0) HBE.out)
   clear hs1 hs2 hs3 fr5 cB0 cB1 cB2 fB0 fB1 fB2 hb4 hb5
   go_wp2
   refine bodyPost_ret (results_cell_row rfl _ _ B0 66 #[.bool l0,.string l1,.string l2] (0,0) _ rfl HS3.out Tryz.underlying66 rfl (by kernel_rfl)) rfl ?_
   exact ⟨rfl,HBF.out⟩
end Go.Proofs.ZQ
end
