/- Texts under the proof, joined by a program (prune.py): QRatC, QRatD, QComp, Q214, Q218, Q219, Q215, QPure5, Q221, Q222, QPure6, QRatRound, QPairs. -/
import Derived.Test.YtglaeambknhjlaaGreatDoorCRatBack16
import Derived.Test.YtglaeambknhjlaaGreatDoorCRatBack12
import Derived.Test.YtglaeambknhjlaaGreatDoorCRatBack13
import Derived.Test.YtglaeambknhjlaaGreatDoorCRatBack14
import Derived.Test.YtglaeambknhjlaaGreatDoorCRatBack11
import Derived.Test.YtglaeambknhjlaaGreatDoorCRatBack09
import Derived.Test.YtglaeambknhjlaaGreatDoorCRatBack15
set_option linter.unusedVariables false
set_option linter.unusedSimpArgs false
set_option exponentiation.threshold 20001
set_option maxHeartbeats 8000000
set_option maxRecDepth 100000
section
namespace Go.Proofs.ZQ
open Go.RowKit Go.Proofs.ZW.Wa Go.Proofs.ZP
theorem cmp_start (w:World) (a0 a1 b0 b1:ByteArray):RowR (((w.alloc (.cells #[.string a0,.string a1] 23)).alloc (.cells #[.string b0,.string b1] 23)).alloc (.cells #[.string a0,.string a1,.string b0,.string b1] 23)) (some ⟨w.heap.size+1+1,0,none⟩) [(a0,a1),(b0,b1)] ∧
  Below w.heap.size w (((w.alloc (.cells #[.string a0,.string a1] 23)).alloc (.cells #[.string b0,.string b1] 23)).alloc (.cells #[.string a0,.string a1,.string b0,.string b1] 23)):=by
 have h1:=row2 ((w.alloc (.cells #[.string a0,.string a1] 23)).alloc (.cells #[.string b0,.string b1] 23)) a0 a1 b0 b1
 simp only [World.size_alloc] at h1
 exact ⟨h1,zaa (zaa (zaa (Below.refl _ _) _) _) _⟩
def cmpR (x y:Rat):Int:=(x.num*y.den-y.num*x.den).sign
theorem cmp_no (a0 a1 b0 b1:ByteArray) (w:World) (h:¬ ((∃ x,RR a0 a1 x)∧∃ y,RR b0 b1 y)) :
  Calls Tryz.prog 43 #[.agg #[.string a0,.string a1],.agg #[.string b0,.string b1]] w fun e w'=>e = .returned (.tuple #[.int .i64 0,.int .i64 3])∧Below w.heap.size w w':=by
 have HA:∀ (A:Option Addr) (c:Nat) (W:World),RowR W A [(a0,a1),(b0,b1)]→Calls Tryz.prog 119 #[.slice A 2 c] W fun e w'=>e = .returned (.slice none 0 0)∧Below W.heap.size W w':=fun A c W hr=>by
  obtain ⟨X,hX|⟨m,hm,h1,h2⟩⟩:=rr_all [(a0,a1),(b0,b1)]
  ·exact absurd ⟨⟨_,hX 0 (by simp)⟩,⟨_,hX 1 (by simp)⟩⟩ h
  ·exact all_no A c [(a0,a1),(b0,b1)] X m W hr (by simp) hm h1 h2
 clear h
 go_enter Tryz.func43,Tryz.ntmps43
 obtain ⟨hrow,hba⟩:=cmp_start w a0 a1 b0 b1
 have hnil:=fun (W:World) (a:Option Addr) (n c:Nat)=>Lib.run_eql_slice_nil (P:=Tryz.prog) W 120 82 a n c 0 0 Tryz.underlying120
 go_wp2_with fail
 generalize (((w.alloc (.cells #[.string a0,.string a1] 23)).alloc (.cells #[.string b0,.string b1] 23)).alloc (.cells #[.string a0,.string a1,.string b0,.string b1] 23))=W0 at *
 generalize w.heap.size+1+1=L at *
 refine (HA _ _ _ hrow).mono ?_
 rintro e w1 ⟨rfl,hb1⟩
 have hB2:=bthen hba hb1
 go_wp2
 go_ret2
 exact ⟨rfl,hB2⟩
theorem cmp_yes (a0 a1 b0 b1:ByteArray) (x y:Rat) (w:World) (hx:RR a0 a1 x) (hy:RR b0 b1 y) :
  Calls Tryz.prog 43 #[.agg #[.string a0,.string a1],.agg #[.string b0,.string b1]] w fun e w'=>e = .returned (.tuple #[.int .i64 (cmpR x y),.int .i64 0])∧Below w.heap.size w w':=by
 have HA:∀ (A:Option Addr) (c:Nat) (W:World),RowR W A [(a0,a1),(b0,b1)]→Calls Tryz.prog 119 #[.slice A 2 c] W fun e w'=>∃ (g:Nat) (ds:List Nat),e = .returned (.slice (some ⟨g,0,none⟩) 2 2)∧ds.length=2∧Hid (ASt W w' g 2 (fun j=>if j=0 then x else y) ds):=fun A c W hr=>by
  exact all_yes A c [(a0,a1),(b0,b1)] (fun j=>if j=0 then x else y) W hr (by simp) (fun j hj=>by
   rcases j with _|_|j
   ·exact hx
   ·exact hy
   ·simp at hj; omega)
 have HBX:=Lib.hid hx.bd
 have HBY:=Lib.hid hy.bd
 clear hx hy
 go_enter Tryz.func43,Tryz.ntmps43
 obtain ⟨hrow,hba⟩:=cmp_start w a0 a1 b0 b1
 have hnil:=fun (W:World) (a:Option Addr) (n c:Nat)=>Lib.run_eql_slice_nil (P:=Tryz.prog) W 120 82 a n c 0 0 Tryz.underlying120
 go_wp2_with fail
 generalize (((w.alloc (.cells #[.string a0,.string a1] 23)).alloc (.cells #[.string b0,.string b1] 23)).alloc (.cells #[.string a0,.string a1,.string b0,.string b1] 23))=W0 at *
 generalize w.heap.size+1+1=L at *
 refine (HA _ _ _ hrow).mono ?_
 rintro e w1 ⟨g,ds,rfl,hdl,HS⟩
 obtain ⟨d0,d1,rfl⟩:∃ d0 d1,ds = [d0,d1]:=by
  rcases ds with _|⟨d0,_|⟨d1,_|⟨d2,t⟩⟩⟩
  ·simp at hdl
  ·simp at hdl
  ·exact ⟨d0,d1,rfl⟩
  ·simp at hdl
 obtain ⟨p1,p2,p3⟩:=HS.out.at_ 0 (by simp)
 obtain ⟨q1,q2,q3⟩:=HS.out.at_ 1 (by simp)
 simp only [List.getElem_cons_zero,List.getElem_cons_succ,if_true,if_false,Nat.one_ne_zero] at p1 p2 p3 q1 q2 q3
 have hblk:=HS.out.blk
 have hB1:=bthen hba HS.out.below
 have c0:=(zaf hblk 0).trans (show _=some (Value.pointer (some ⟨d0,0,none⟩)) from rfl)
 have c1:=(zaf hblk 1).trans (show _=some (Value.pointer (some ⟨d1,0,none⟩)) from rfl)
 clear hdl hrow hba hblk p1 p2 q1 q2
 go_wp2_with fail
 go_still_tail 6,(by kernel_rfl)
 change wpList _ _ _ _ _ w1.drew
 have hbd:=zae w1
 have hx3:=p3.below hbd
 have hy3:=q3.below hbd
 have hB3:=bthen hB1 hbd
 clear p3 q3 hB1 hbd c0 c1 HS
 generalize w1.drew=w3 at *
 go_wp2_with fail
 refine (rcmp_calls _ _ x y w3 hx3 hy3 HBX.out HBY.out (by decide)).mono ?_
 rintro e w4 ⟨rfl,hb4⟩
 have hB4:=bthen hB3 hb4
 clear hx3 hy3 hB3 hb4 HA hnil HBX HBY
 generalize hc:(x.num*y.den-y.num*x.den).sign=c
 have HC:=Lib.hid (show cmpR x y=c from hc)
 clear hc
 go_wp2
 go_ret2
 exact ⟨by rw [HC.out]; rfl,hB4⟩
noncomputable def rat_Cmp.f (a0_0 a0_1 a1_0 a1_1:ByteArray):Option (Int×Int):=by
 classical exact if h:(∃ x,RR a0_0 a0_1 x)∧∃ y,RR a1_0 a1_1 y then some (cmpR h.1.choose h.2.choose,0) else some (0,3)
theorem rat_cmp_yes {a0 a1 b0 b1:ByteArray} {x y:Rat} (hx:RR a0 a1 x) (hy:RR b0 b1 y):rat_Cmp.f a0 a1 b0 b1=some (cmpR x y,0):=by
 have h:(∃ x,RR a0 a1 x)∧∃ y,RR b0 b1 y:=⟨⟨x,hx⟩,⟨y,hy⟩⟩
 unfold rat_Cmp.f
 rw [dif_pos h,←rr_one hx h.1.choose_spec,←rr_one hy h.2.choose_spec]
theorem rat_cmp_no {a0 a1 b0 b1:ByteArray} (h:¬ ((∃ x,RR a0 a1 x)∧∃ y,RR b0 b1 y)):rat_Cmp.f a0 a1 b0 b1=some (0,3):=by
 unfold rat_Cmp.f
 rw [dif_neg h]
theorem rat_Cmp.calls (a0 a1 b0 b1:ByteArray) (r1 r2:Int) (w:World) (h:rat_Cmp.f a0 a1 b0 b1=some (r1,r2)) :
  Calls Tryz.prog 43 #[.agg #[.string a0,.string a1],.agg #[.string b0,.string b1]] w fun e w'=>e = .returned (.tuple #[.int .i64 r1,.int .i64 r2])∧Below w.heap.size w w':=by
 by_cases hh:(∃ x,RR a0 a1 x)∧∃ y,RR b0 b1 y
 ·obtain ⟨⟨x,hx⟩,⟨y,hy⟩⟩:=hh
  rw [rat_cmp_yes hx hy] at h
  obtain ⟨rfl,rfl⟩:=Prod.mk.inj (Option.some.inj h)
  exact cmp_yes a0 a1 b0 b1 x y w hx hy
 ·rw [rat_cmp_no hh] at h
  obtain ⟨rfl,rfl⟩:=Prod.mk.inj (Option.some.inj h)
  exact cmp_no a0 a1 b0 b1 w hh
theorem Floor_do (w:World) (x:Rat) (hsx:Bdr 2000 x):OneDo 133 #[] w x 0 ((x.floor:Int):Rat):=by
 intro W z gx hb h1 h2 n1 hz hx
 have HF:=Lib.hid (floor_calls gx x W hx hsx (by decide))
 have HC:=fun (w':World) (D:Nat) (h:IntAt w' D 0 x.floor) (hb:Below W.heap.size W w')=>zaL z D 0 x.floor w' (hz.slot.below hb) h (bd_floor hsx) (by decide)
 have HZ:=Lib.hid (show W.heap.size≥z+1 from hz.lt)
 change Calls Tryz.prog 133 #[.pointer (some ⟨z,0,none⟩),.pointer (some ⟨gx,0,none⟩)] W _
 clear hz hx hsx hb h1 h2 n1
 go_enter Tryz.func133,Tryz.ntmps133
 go_wp2_with fail
 refine HF.out.mono ?_
 rintro e w1 ⟨D,rfl,hD,hi,hb1⟩
 go_wp2_with fail
 refine (HC _ D hi hb1).mono ?_
 rintro e w2 ⟨rfl,hr,hu⟩
 have HR:=Lib.hid hr
 have HU:=Lib.hid (hu.lift hb1)
 clear hr hu HC HF hi hb1 hD
 go_wp2
 go_ret
 exact ⟨rfl,fun _=>HR.out,HU.out.keepB⟩
theorem Floor_wrap (a0 a1:ByteArray) (w:World) (tt:ByteArray×ByteArray×Int) (hd:∀ W:World,Below w.heap.size w W→Says 132 #[.agg #[.string a0,.string a1],.func (.func 133) #[] #[]] W tt):Says 53 #[.agg #[.string a0,.string a1]] w tt:=by
 have HD:=Lib.hid hd
 clear hd
 unfold Says
 go_enter Tryz.func53,Tryz.ntmps53
 obtain ⟨hbk,hba⟩:=start1 w a0 a1
 go_wp2_with fail
 generalize ((w.alloc (.cells #[.string a0,.string a1] 23)).alloc (.cells #[.string ⟨#[]⟩,.string ⟨#[]⟩] 23))=W0 at *
 generalize hBe:w.heap.size+1=B0 at *
 have HBE:=Lib.hid (show w.heap.size≤B0 by omega)
 clear hBe
 refine (HD.out _ hba).mono ?_
 rintro e w1 ⟨rfl,hb1⟩
 have hbk5:=(hb1.block _ (zar hbk)).trans hbk
 have hB5:=bthen hba hb1
 have cB0:=(zaf hbk5 0).trans (show _=some (Value.string ⟨#[]⟩) from rfl)
 have cB1:=(zaf hbk5 1).trans (show _=some (Value.string ⟨#[]⟩) from rfl)
 have fB0:=zad hbk5 0
 have fB1:=zad hbk5 1
 have hs1:=zat hbk5 0 (.string tt.1)
 have hs2:=zat hs1 1 (.string tt.2.1)
 have HS2:=Lib.hid (hs2.trans (show _=some (Obj.cells #[.string tt.1,.string tt.2.1] 23 (0,0)) from rfl))
 have HBF:=Lib.hid (zag (zag (g:=B0) (j:=0) (v:=.string tt.1) hB5 HBE.out) (j:=1) (v:=.string tt.2.1) (g:=B0) HBE.out)
 clear hs1 hs2 hbk hbk5 hba hb1 HD
 go_wp2
 refine bodyPost_ret (zbi rfl _ _ B0 23 #[.string tt.1,.string tt.2.1] (0,0) _ rfl HS2.out Tryz.underlying23 rfl (by kernel_rfl)) rfl ?_
 exact ⟨rfl,HBF.out⟩
noncomputable def rat_Floor.f (a0_0 a0_1:ByteArray):Option (ByteArray×ByteArray×Int):=oneF (fun x=>0) (fun x=>((x.floor:Int):Rat)) a0_0 a0_1
theorem rat_Floor.calls (a0 a1:ByteArray) (r1 r2:ByteArray) (r3:Int) (w:World) (h:rat_Floor.f a0 a1=some (r1,r2,r3)) :
  Calls Tryz.prog 53 #[.agg #[.string a0,.string a1]] w fun e w'=>e = .returned (.tuple #[.agg #[.string r1,.string r2],.int .i64 r3])∧Below w.heap.size w w':=by
 refine Floor_wrap a0 a1 w (r1,r2,r3) (fun W _ => ?_)
 unfold rat_Floor.f at h
 by_cases hh:∃ x,RR a0 a1 x
 ·obtain ⟨x,hx⟩:=hh
  rw [oneF_yes hx] at h
  rw [←Option.some.inj h]
  exact one_yes a0 a1 x 133 #[] (0) (((x.floor:Int):Rat)) W (enters_of Tryz.func133 (by kernel_rfl) rfl) hx (Floor_do W x hx.bd) (fun hw=>(Bdr.int (bd_floor hx.bd) (by decide)).mono (by decide)) (n:=5000) (by decide)
 ·rw [oneF_no hh] at h
  rw [←Option.some.inj h]
  exact one_no a0 a1 133 #[] W hh
end Go.Proofs.ZQ
end
section
namespace Go.Proofs.ZQ
open Go.RowKit Go.Proofs.ZW.Wa Go.Proofs.ZP Go.Proofs.ZW.Wb Go.Proofs.ZW.Wc
noncomputable def c2_Compare.f (a0_0:Bool) (a0_1:ByteArray) (a0_2:ByteArray) (a1_0:Bool) (a1_1:ByteArray) (a1_2:ByteArray):Option (Int):=(c2_Minus.f a1_0 a1_1 a1_2).bind fun bt821=>((c2_Plus.f a0_0 a0_1 a0_2 bt821.1 bt821.2.1 bt821.2.2).bind fun bt824=>(if bt824.2.1.toList=([48]:List UInt8) then (some 0) else (if bt824.1=true then (some (-1)) else (some 1))))
theorem c2_Compare.calls (a0_0:Bool) (a0_1:ByteArray) (a0_2:ByteArray) (a1_0:Bool) (a1_1:ByteArray) (a1_2:ByteArray) (r:Int) (w:World) (h:c2_Compare.f a0_0 a0_1 a0_2 a1_0 a1_1 a1_2=some r) :
  Calls Tryz.prog 63 #[.agg #[.bool a0_0,.string a0_1,.string a0_2],.agg #[.bool a1_0,.string a1_1,.string a1_2]] w fun e w'=>e = .returned (.int .i64 r)∧Below w.heap.size w w':=by
 unfold c2_Compare.f at h
 obtain ⟨⟨m0,m1,m2⟩,hm,h2⟩:=Option.bind_eq_some_iff.1 h
 obtain ⟨⟨d0,d1,d2⟩,hd,h3⟩:=Option.bind_eq_some_iff.1 h2
 have HM:=Lib.hid (fun W=>c2_Minus.calls a1_0 a1_1 a1_2 m0 m1 m2 W hm)
 have HP:=Lib.hid (fun W=>c2_Plus.calls a0_0 a0_1 a0_2 m0 m1 m2 d0 d1 d2 W hd)
 have H:Hid ((if d1.toList=([48]:List UInt8) then (some 0) else (if d0=true then (some (-1)) else (some 1)))=some r):=Lib.hid h3
 clear h h2 h3 hm hd
 go_enter Tryz.func63,Tryz.ntmps63
 obtain ⟨fa,fb,hba⟩:=fr_two w a0_0 a1_0 a0_1 a0_2 a1_1 a1_2
 go_wp2_with fail
 generalize ((w.alloc (.cells #[.bool a0_0,.string a0_1,.string a0_2] 66)).alloc (.cells #[.bool a1_0,.string a1_1,.string a1_2] 66))=W0 at *
 generalize hBx:w.heap.size+1=X0 at *
 have HK:=Lib.hid (show ∀ W':World,Below W0.heap.size W0 W'→W'.cell? ⟨w.heap.size,0,none⟩=some (.bool a0_0)∧W'.cell? ⟨w.heap.size,1,none⟩=some (.string a0_1)∧W'.cell? ⟨w.heap.size,2,none⟩=some (.string a0_2)∧W'.cell? ⟨X0,0,none⟩=some (.bool a1_0)∧W'.cell? ⟨X0,1,none⟩=some (.string a1_1)∧W'.cell? ⟨X0,2,none⟩=some (.string a1_2) from fun W' h=>⟨(fa.below h).c0,(fa.below h).c1,(fa.below h).c2,(fb.below h).c0,(fb.below h).c1,(fb.below h).c2⟩)
 have HLT:=Lib.hid (show w.heap.size<W0.heap.size∧X0<W0.heap.size from ⟨zar fa,zar fb⟩)
 have HQS:=Lib.hid (show ∀ (W':World) (D:Nat) (u v t:Value),W0.heap.size≤D→Below W0.heap.size W0 W'→(fun w':World=>w'.cell? ⟨w.heap.size,0,none⟩=some (.bool a0_0)∧w'.cell? ⟨w.heap.size,1,none⟩=some (.string a0_1)∧w'.cell? ⟨w.heap.size,2,none⟩=some (.string a0_2)∧w'.cell? ⟨X0,0,none⟩=some (.bool a1_0)∧w'.cell? ⟨X0,1,none⟩=some (.string a1_1)∧w'.cell? ⟨X0,2,none⟩=some (.string a1_2)) (((W'.setCell ⟨D,0,none⟩ u).setCell ⟨D,1,none⟩ v).setCell ⟨D,2,none⟩ t) from fun W' D u v t hD h=>HK.out _ (Below.setCell (p:=⟨D,2,none⟩) (Below.setCell (p:=⟨D,1,none⟩) (Below.setCell (p:=⟨D,0,none⟩) h hD u) hD v) hD t))
 dsimp only at HQS
 clear hBx fa fb
 have HBA:=Lib.hid hba
 clear hba
 go_region_held3 (fun w'=>w'.cell? ⟨w.heap.size,0,none⟩=some (.bool a0_0)∧w'.cell? ⟨w.heap.size,1,none⟩=some (.string a0_1)∧w'.cell? ⟨w.heap.size,2,none⟩=some (.string a0_2)∧w'.cell? ⟨X0,0,none⟩=some (.bool a1_0)∧w'.cell? ⟨X0,1,none⟩=some (.string a1_1)∧w'.cell? ⟨X0,2,none⟩=some (.string a1_2))
  (first|((with_reducible refine HQS.out _ _ _ _ _ ?_ ?_); (first|exact hZ|exact Nat.le_trans hb1.size hb2.size); repeat (with_reducible first|exact Below.refl _ _|apply zap|apply zab|apply zaa|refine bthen ?_ hb2|refine bthen ?_ hb1))|(with_reducible refine HK.out _ ?_; repeat (with_reducible first|exact Below.refl _ _|apply zap|apply zab|apply zaa|refine bthen ?_ hb2|refine bthen ?_ hb1)))
  ((first
   | (go_simp; go_at_call 62; (with_reducible change Calls _ _ #[.agg #[.bool a1_0,.string a1_1,.string a1_2]] _ _); refine (HM.out _).mono ?_; rintro e w1 ⟨rfl,hb1⟩)
   | (go_simp; go_at_call 60; (with_reducible change Calls _ _ #[.agg #[.bool a0_0,.string a0_1,.string a0_2],.agg #[.bool m0,.string m1,.string m2]] _ _); refine (HP.out _).mono ?_; rintro e w2 ⟨rfl,hb2⟩; first|(have f2:=(FrAt.new w1 false ⟨#[]⟩ ⟨#[]⟩).below hb2; have hZ:=hb1.size; have c0:=f2.c0; have c1:=f2.c1; have c2:=f2.c2; have g0:=zad f2 0; have g1:=zad f2 1; have g2:=zad f2 2)|(have f2:FrAt w2 W0.heap.size false ⟨#[]⟩ ⟨#[]⟩:=((FrAt.new W0.drew false ⟨#[]⟩ ⟨#[]⟩).below hb1).below hb2; have hZ:=Nat.le_refl W0.heap.size; have c0:=f2.c0; have c1:=f2.c1; have c2:=f2.c2; have g0:=zad f2 0; have g1:=zad f2 1; have g2:=zad f2 2)|skip)))
 all_goals
  rename_i hHeld
  clear hHeld HK HQS HM HP
  have hB2:Below W0.heap.size W0 w2:=by repeat (with_reducible first|exact Below.refl _ _|apply zap|apply zab|apply zaa|refine bthen ?_ hb2|refine bthen ?_ hb1)
  have hD2:=HBA.out.size
  have h:=H.out
  first
  | (obtain ⟨hF,hBF⟩:=fr_put f2 (bthen HBA.out hB2) (Nat.le_trans hD2 hZ) d0 d1 d2; clear f2 hZ c0 c1 c2 g0 g1 g2; generalize World.setCell _ _ _=wF at hF hBF ⊢)
  | (have hF:=FrAt.new w2 d0 d1 d2; have hBF:=zaa (bthen HBA.out hB2) (.cells #[.bool d0,.string d1,.string d2] 66); generalize World.alloc _ _=wF at hF hBF ⊢)
  clear hB2 hD2 hb1 hb2 H HBA HLT
  have q0:=hF.c0
  have q1:=hF.c1
  clear hF
  have HBF:=Lib.hid hBF
  clear hBF
  by_cases h0:d1.toList=([48]:List UInt8)
  ·cases (if_pos h0).symm.trans h
   go_wp2
   go_ret
   exact ⟨rfl,HBF.out⟩
  ·have h:=(if_neg h0).symm.trans h
   have h0b:(d1.toList == ([48]:List UInt8))=false:=by simpa using h0
   cases d0
   ·cases (if_neg (by decide)).symm.trans h
    go_wp2
    go_ret
    exact ⟨rfl,HBF.out⟩
   ·cases (if_pos rfl).symm.trans h
    go_wp2
    go_ret
    exact ⟨rfl,HBF.out⟩
end Go.Proofs.ZQ
end
section
namespace Go.Proofs.ZQ
open Go.RowKit Go.Proofs.ZW.Wa Go.Proofs.ZW.Wb Go.Proofs.ZW.Wc
attribute [local go_sem] zaH zaF zaQ zaP zaB zaA zaG zaE
noncomputable def c2_Cmp.j0:Nat→Bool→ByteArray→ByteArray→ByteArray→ByteArray→Option (Int×Int)
 | 0,_,_,_,_,_=>none
 | k+1,x13,x801000,x801001,x802000,x802001=>if x13=true then (some (0,3)) else ((c2_Read.f k x801000 x801001).bind fun bt804=>((c2_Read.f k x802000 x802001).bind fun bt807=>((c2_Compare.f bt804.1 bt804.2.1 bt804.2.2 bt807.1 bt807.2.1 bt807.2.2).bind fun t810=>(some (t810,0)))))
noncomputable def c2_Cmp.f (k:Nat) (a0_0:ByteArray) (a0_1:ByteArray) (a1_0:ByteArray) (a1_1:ByteArray):Option (Int×Int):=(c2_Right.f k a0_0 a0_1).bind fun t802=>(if t802=true then ((c2_Right.f k a1_0 a1_1).bind fun t803=>(c2_Cmp.j0 k (!t803) a0_0 a0_1 a1_0 a1_1)) else (c2_Cmp.j0 k true a0_0 a0_1 a1_0 a1_1))
noncomputable def c2_Down.j0:Nat→ByteArray→Bool→Bool→ByteArray→ByteArray→Option (Bool×ByteArray×ByteArray)
 | 0,_,_,_,_,_=>none
 | k+1,x3,x18,x817000,x817001,x817002=>if x18=true then ((c1_Plus.f x3 (⟨#[49]⟩:ByteArray)).bind fun t820=>((c2_Lowest.f x817000 t820 (⟨#[49]⟩:ByteArray)).bind fun bt821=>(some (bt821.1,bt821.2.1,bt821.2.2)))) else ((c2_Lowest.f x817000 x3 (⟨#[49]⟩:ByteArray)).bind fun bt824=>(some (bt824.1,bt824.2.1,bt824.2.2)))
noncomputable def c2_Down.f (k:Nat) (a0_0:Bool) (a0_1:ByteArray) (a0_2:ByteArray):Option (Bool×ByteArray×ByteArray):=(c1_Divide.f a0_1 a0_2).bind fun bt818=>(if a0_0=true then (c2_Down.j0 k bt818.1 (bt818.2.toList != ([48]:List UInt8)) a0_0 a0_1 a0_2) else (c2_Down.j0 k bt818.1 false a0_0 a0_1 a0_2))
noncomputable def c2_Floor.f (k:Nat) (a0_0:ByteArray) (a0_1:ByteArray):Option (ByteArray×ByteArray×Int):=(c2_Right.f k a0_0 a0_1).bind fun t829=>(if t829=true then ((c2_Read.f k a0_0 a0_1).bind fun bt830=>((c2_Down.f k bt830.1 bt830.2.1 bt830.2.2).bind fun bt833=>((c2_Told.f k bt833.1 bt833.2.1 bt833.2.2).bind fun bt836=>(some (bt836.1,bt836.2.1,bt836.2.2))))) else (some ((⟨#[]⟩:ByteArray),(⟨#[]⟩:ByteArray),3)))
noncomputable def rat_Sign.f (a0_0:ByteArray) (a0_1:ByteArray):Option (Int×Int):=(rat_Of.f 0).bind fun bt812=>((rat_Cmp.f a0_0 a0_1 bt812.1 bt812.2).bind fun bt814=>(some (bt814.1,bt814.2)))
end Go.Proofs.ZQ
end
section
namespace Go.Proofs.ZQ
open Go.RowKit Go.Proofs.ZW.Wa Go.Proofs.ZP
theorem cmpR_sub (x y:Rat):cmpR x y=(x-y).num.sign:=by
 have hd:(0:Int)<(x.den:Int)*y.den:=Int.mul_pos (by have:=x.den_pos; omega) (by have:=y.den_pos; omega)
 have e:x-y=Rat.divInt (x.num*y.den-y.num*x.den) (x.den*y.den):=by
  rw [Rat.sub_eq_add_neg,zcO]
  have e1:(-y).num = -y.num:=Rat.neg_num y
  have e2:(-y).den=y.den:=rfl
  rw [e1,e2,Int.neg_mul]; rfl
 have h:=num_mul (x.num*y.den-y.num*x.den) (x.den*y.den) (by omega)
 rw [←e] at h
 have hp:(0:Int)<(x-y).den:=by have:=(x-y).den_pos; omega
 unfold cmpR
 refine (sign_scale hd hp ?_).symm
 rw [h,Int.mul_comm]
theorem Compare_Fr {x y:Rat} {k:Nat} (hx:Sz k x) (hy:Sz k y) (hk:k≤1000000):c2_Compare.f (Fr x).1 (Fr x).2.1 (Fr x).2.2 (Fr y).1 (Fr y).2.1 (Fr y).2.2=some (cmpR x y):=by
 unfold c2_Compare.f
 have h:=(Plus_Fr hx (neg_sz hy) hk).1
 rw [←Rat.sub_eq_add_neg] at h
 rw [Minus_Fr,Option.bind_some,h,Option.bind_some,cmpR_sub]
 generalize x-y=d
 show (if (T d.num.natAbs).toList=([48]:List UInt8) then _ else (if decide (d.num<0)=true then _ else _))=_
 by_cases h0:d.num=0
 ·rw [if_pos (b48.2 (by rw [h0]; rfl)),h0]; rfl
 ·rw [if_neg (fun e=>h0 (by have:=T_inj (b48.1 e); omega))]
  by_cases h1:d.num<0
  ·rw [if_pos (decide_eq_true h1),Int.sign_eq_neg_one_of_neg h1]
  ·rw [if_neg (by simpa using h1),Int.sign_eq_one_of_pos (by omega)]
end Go.Proofs.ZQ
end
section
namespace Go.Proofs.ZQ
open Go.RowKit Go.Proofs.ZW.Wa Go.Proofs.ZW.Wb Go.Proofs.ZW.Wc
attribute [local go_sem] zaH zaF zaQ zaP zaB zaA zaG zaE
noncomputable def c2_Rounded.f (a0_0:Bool) (a0_1:ByteArray) (a0_2:ByteArray) (a1:Int):Option (Bool×ByteArray×ByteArray):=(c2_Steps.f a0_0 a0_1 a0_2 a1).bind fun t841=>(if a1≥0 then ((c2_Zeros.f a1).bind fun t842=>(if 1+t842.size≤9223372036854775807 then ((c2_Lowest.f a0_0 t841 ((⟨#[49]⟩:ByteArray)++t842)).bind fun bt843=>(some (bt843.1,bt843.2.1,bt843.2.2))) else (none))) else ((c2_Zeros.f (wrap64 (-a1))).bind fun t846=>(if 1+t846.size≤9223372036854775807 then ((c1_Times.f t841 ((⟨#[49]⟩:ByteArray)++t846)).bind fun t847=>((c2_Lowest.f a0_0 t847 (⟨#[49]⟩:ByteArray)).bind fun bt848=>(some (bt848.1,bt848.2.1,bt848.2.2)))) else (none))))
noncomputable def c2_Round.j0:Nat→Int→Bool→ByteArray→ByteArray→Option (ByteArray×ByteArray×Int)
 | 0,_,_,_,_=>none
 | k+1,x1,x15,x852000,x852001=>if x15=true then (some ((⟨#[]⟩:ByteArray),(⟨#[]⟩:ByteArray),1)) else ((c2_Read.f k x852000 x852001).bind fun bt854=>((c2_Rounded.f bt854.1 bt854.2.1 bt854.2.2 x1).bind fun bt857=>((c2_Told.f k bt857.1 bt857.2.1 bt857.2.2).bind fun bt860=>(some (bt860.1,bt860.2.1,bt860.2.2)))))
noncomputable def c2_Round.f (k:Nat) (a0_0:ByteArray) (a0_1:ByteArray) (a1:Int):Option (ByteArray×ByteArray×Int):=(c2_Right.f k a0_0 a0_1).bind fun t853=>(if t853=true then (if a1<(-600) then (c2_Round.j0 k a1 true a0_0 a0_1) else (c2_Round.j0 k a1 (decide (a1>600)) a0_0 a0_1)) else (some ((⟨#[]⟩:ByteArray),(⟨#[]⟩:ByteArray),3)))
end Go.Proofs.ZQ
end
section
namespace Go.Proofs.ZQ
open Go.RowKit Go.Proofs.ZW.Wa Go.Proofs.ZP
theorem tenR_neg (q:Nat) (hq:0<q):tenR (-(q:Int))=Rat.divInt 1 ((10^q:Nat):Int):=by
 unfold tenR
 rw [if_pos (by omega),Int.natAbs_neg,Int.natAbs_natCast,zcW]
 have hi:((((10:Int)^q:Int)):Rat).num=(10:Int)^q:=rfl
 have hj:((((10:Int)^q:Int)):Rat).den=1:=rfl
 rw [hi,hj,Int.natCast_pow]; rfl
theorem tenR_pos (q:Nat):tenR (q:Int)=Rat.divInt ((10^q:Nat):Int) 1:=by
 have h:tenR (q:Int)=(((10:Int)^q:Int):Rat):=by unfold tenR; rw [if_neg (by omega),Int.natAbs_natCast]
 rw [h,int_div1,Int.natCast_pow]; rfl
theorem start1c (w:World) (a0 a1:ByteArray) (p:Int):(((w.alloc (.cells #[.string a0,.string a1] 23)).alloc (.cells #[.int .i64 p] 3)).alloc (.cells #[.string ⟨#[]⟩,.string ⟨#[]⟩] 23)).heap[w.heap.size+1+1]? = some (.cells #[.string ⟨#[]⟩,.string ⟨#[]⟩] 23 (0,0)) ∧
  (((w.alloc (.cells #[.string a0,.string a1] 23)).alloc (.cells #[.int .i64 p] 3)).alloc (.cells #[.string ⟨#[]⟩,.string ⟨#[]⟩] 23)).heap[w.heap.size+1]? = some (.cells #[.int .i64 p] 3 (0,0)) ∧
  Below w.heap.size w (((w.alloc (.cells #[.string a0,.string a1] 23)).alloc (.cells #[.int .i64 p] 3)).alloc (.cells #[.string ⟨#[]⟩,.string ⟨#[]⟩] 23)):=by
 refine ⟨?_,?_,zaa (zaa (zaa (Below.refl _ _) _) _) _⟩
 ·have:=zay ((w.alloc (.cells #[.string a0,.string a1] 23)).alloc (.cells #[.int .i64 p] 3)) (.cells #[.string ⟨#[]⟩,.string ⟨#[]⟩] 23)
  simp only [World.size_alloc] at this
  exact this
 ·have h1:=zay (w.alloc (.cells #[.string a0,.string a1] 23)) (.cells #[.int .i64 p] 3)
  have h2:=zaa (Below.refl ((w.alloc (.cells #[.string a0,.string a1] 23)).alloc (.cells #[.int .i64 p] 3)).heap.size ((w.alloc (.cells #[.string a0,.string a1] 23)).alloc (.cells #[.int .i64 p] 3))) (.cells #[.string ⟨#[]⟩,.string ⟨#[]⟩] 23)
  rw [World.size_alloc] at h1
  exact (h2.block _ (by simp only [World.size_alloc]; omega)).trans h1
theorem Round_wrap (a0 a1:ByteArray) (p:Int) (w:World) (tt:ByteArray×ByteArray×Int) (hd:∀ (W:World) (B:Nat),Below w.heap.size w W→w.heap.size≤B→W.heap[B]? = some (.cells #[.int .i64 p] 3 (0,0))→Says 132 #[.agg #[.string a0,.string a1],.func (.func 135) #[] #[.pointer (some ⟨B,0,none⟩)]] W tt):Says 55 #[.agg #[.string a0,.string a1],.int .i64 p] w tt:=by
 have HD:=Lib.hid hd
 clear hd
 unfold Says
 go_enter Tryz.func55,Tryz.ntmps55
 obtain ⟨hbk,hbx,hba⟩:=start1c w a0 a1 p
 go_wp2_with fail
 generalize (((w.alloc (.cells #[.string a0,.string a1] 23)).alloc (.cells #[.int .i64 p] 3)).alloc (.cells #[.string ⟨#[]⟩,.string ⟨#[]⟩] 23))=W0 at *
 generalize hBx:w.heap.size+1=X0 at *
 generalize hBe:X0+1=B0 at *
 have HBE:=Lib.hid (show w.heap.size≤B0 by omega)
 have hX:w.heap.size≤X0:=by omega
 clear hBe hBx
 refine (HD.out _ _ hba hX hbx).mono ?_
 rintro e w1 ⟨rfl,hb1⟩
 have hbk5:=(hb1.block _ (zar hbk)).trans hbk
 have hB5:=bthen hba hb1
 have cB0:=(zaf hbk5 0).trans (show _=some (Value.string ⟨#[]⟩) from rfl)
 have cB1:=(zaf hbk5 1).trans (show _=some (Value.string ⟨#[]⟩) from rfl)
 have fB0:=zad hbk5 0
 have fB1:=zad hbk5 1
 have hs1:=zat hbk5 0 (.string tt.1)
 have hs2:=zat hs1 1 (.string tt.2.1)
 have HS2:=Lib.hid (hs2.trans (show _=some (Obj.cells #[.string tt.1,.string tt.2.1] 23 (0,0)) from rfl))
 have HBF:=Lib.hid (zag (zag (g:=B0) (j:=0) (v:=.string tt.1) hB5 HBE.out) (j:=1) (v:=.string tt.2.1) (g:=B0) HBE.out)
 clear hs1 hs2 hbk hbk5 hba hb1 HD hbx hX
 go_wp2
 refine bodyPost_ret (zbi rfl _ _ B0 23 #[.string tt.1,.string tt.2.1] (0,0) _ rfl HS2.out Tryz.underlying23 rfl (by kernel_rfl)) rfl ?_
 exact ⟨rfl,HBF.out⟩
theorem Round_do1 (w:World) (x:Rat) (p:Int) (B:Nat) (hB:w.heap[B]? = some (.cells #[.int .i64 p] 3 (0,0))) (hp:p < -600∨600<p) (r:Rat):OneDo 135 #[.pointer (some ⟨B,0,none⟩)] w x 1 r:=by
 intro W z gx hb h1 h2 n1 hz hx
 have hB2:=(hb.block _ (zar hB)).trans hB
 have c0:=(zaf hB2 0).trans (show _=some (Value.int .i64 p) from rfl)
 change Calls Tryz.prog 135 #[.pointer (some ⟨z,0,none⟩),.pointer (some ⟨gx,0,none⟩),.pointer (some ⟨B,0,none⟩)] W _
 clear hz hx hb h1 h2 n1 hB2 hB
 by_cases hl:p < -600
 ·go_enter Tryz.func135,Tryz.ntmps135
  go_wp2
  go_ret
  first|exact ⟨rfl,fun e=>absurd e (by decide),by first|exact KeepB.refl _ _|exact (KeepB.refl _ _).drewN _⟩|exact ⟨rfl,KeepB.refl _ _⟩|exact ⟨rfl,(KeepB.refl _ _).drewN _⟩
 ·have hg:p>600:=by omega
  go_enter Tryz.func135,Tryz.ntmps135
  go_wp2
  go_ret
  first|exact ⟨rfl,fun e=>absurd e (by decide),by first|exact KeepB.refl _ _|exact (KeepB.refl _ _).drewN _⟩|exact ⟨rfl,KeepB.refl _ _⟩|exact ⟨rfl,(KeepB.refl _ _).drewN _⟩
theorem Round_do2 (w:World) (x:Rat) (p:Int) (B:Nat) (hB:w.heap[B]? = some (.cells #[.int .i64 p] 3 (0,0))) (hp : -600≤p∧p≤600) (hsx:Bdr 2000 x):OneDo 135 #[.pointer (some ⟨B,0,none⟩)] w x 0 (((evenR (x*tenR p):Int):Rat)*tenR (-p)):=by
 intro W z gx hb h1 h2 n1 hz hx
 have hB2:=(hb.block _ (zar hB)).trans hB
 have c0:=(zaf hB2 0).trans (show _=some (Value.int .i64 p) from rfl)
 have HK:=Lib.hid (show ∀ W':World,Below W.heap.size W W'→W'.cell? ⟨B,0,none⟩=some (.int .i64 p) from fun W' h=>(zaf ((h.block _ (zar hB2)).trans hB2) 0).trans (show _=some (Value.int .i64 p) from rfl))
 have hBz:B≠z:=by have:=zar hB; omega
 have HK2:=Lib.hid (show ∀ W':World,KeepB W W' z→W'.cell? ⟨B,0,none⟩=some (.int .i64 p) from fun W' h=>(zaf ((h.other _ (zar hB2) hBz).trans hB2) 0).trans (show _=some (Value.int .i64 p) from rfl))
 have HX:=Lib.hid hx
 have HBX:=Lib.hid hsx
 have hzl:=hz.lt
 have HZ:=Lib.hid hz
 have hpn:p.natAbs≤600:=by omega
 have HE:=Lib.hid (bd_even ((hsx.mul (Bdr.tenR p)).mono (show 2000+(4*p.natAbs+1)≤4401 by omega)))
 have HER:=Lib.hid (Bdr.int HE.out (by decide))
 have HTT:=Lib.hid ((Bdr.tenR (-p)).mono (show 4*(-p).natAbs+1≤2401 by omega))
 have HN:=Lib.hid (RatAt.new W 112 (by decide)).slot
 have hl:¬ p < -600:=by omega
 have hg:¬ p>600:=by omega
 have hw1:wrap64 (-p) = -p:=by unfold wrap64; omega
 have hw2:IntKind.i64.wrap (-p) = -p:=IntWalk.i64_in _ (by omega)
 change Calls Tryz.prog 135 #[.pointer (some ⟨z,0,none⟩),.pointer (some ⟨gx,0,none⟩),.pointer (some ⟨B,0,none⟩)] W _
 clear hx hb h1 h2 hB2 hB hsx hz
 go_enter Tryz.func135,Tryz.ntmps135
 go_wp2_with fail
 go_region_held3 (fun w'=>w'.cell? ⟨B,0,none⟩=some (.int .i64 p)) (first|exact HK2.out _ hK4|exact HK.out _ (by repeat (with_reducible first|exact Below.refl _ _|exact hB3|apply zap|apply zab|apply zaa|refine bthen ?_ hb2|refine bthen ?_ hb1)))
  ((first
   | (go_simp; go_at_call 102; (with_reducible change Calls _ _ #[.pointer (some ⟨gx,0,none⟩),.int .i64 p] _ _); refine (steps_calls gx x p _ (HX.out.below (by repeat (with_reducible first|exact Below.refl _ _|exact hB3|apply zap|apply zab|apply zaa|refine bthen ?_ hb2|refine bthen ?_ hb1))) HBX.out (by decide) (by omega) (by omega) (by decide)).mono ?_; rintro e w1 ⟨D1,rfl,hD1,hi1,hb1⟩)
   | (go_simp; go_at_call 136; (with_reducible change Calls _ _ #[.int .i64 (-p)] _ _); refine (zbR (-p) _ (by omega) (by omega)).mono ?_; rintro e w2 ⟨G2,rfl,hG2,ht2,hb2⟩)
   | (go_simp; go_at_call 125; (with_reducible change Calls _ _ #[.pointer (some ⟨_,0,none⟩),.pointer (some ⟨D1,0,none⟩)] _ _); refine (zaL _ D1 0 _ _ (by first|exact HN.out.below (by repeat (with_reducible first|exact Below.refl _ _|apply zap|apply zab|apply zaa|refine bthen ?_ hb2|refine bthen ?_ hb1))|exact (RatAt.new w1 112 (by decide)).slot.below (by repeat (with_reducible first|exact Below.refl _ _|apply zap|apply zab|apply zaa|refine bthen ?_ hb2|refine bthen ?_ hb1))|exact (RatAt.new w2 112 (by decide)).slot.below (by repeat (with_reducible first|exact Below.refl _ _|apply zap|apply zab|apply zaa|refine bthen ?_ hb2|refine bthen ?_ hb1))) (hi1.below (by repeat (with_reducible first|exact Below.refl _ _|apply zap|apply zab|apply zaa|refine bthen ?_ hb2|refine bthen ?_ hb1))) HE.out (by decide)).mono ?_; rintro e w3 ⟨rfl,hr3,hu3⟩; have hB3:Below W.heap.size W w3:=hu3.new (by repeat (with_reducible first|exact Below.refl _ _|apply zap|apply zab|apply zaa|refine bthen ?_ hb2|refine bthen ?_ hb1)) (by first|exact Nat.le_refl _|(have k1:=hb1.size; (try have k2:=hb2.size); (try simp only [World.size_alloc,World.size_drew] at k1); (try simp only [World.size_alloc,World.size_drew] at k2); omega)|(have k2:=hb2.size; (try simp only [World.size_alloc,World.size_drew] at k2); omega)))
   | (go_simp; go_at_call 118; (with_reducible change Calls _ _ #[.pointer (some ⟨z,0,none⟩),.pointer (some ⟨_,0,none⟩),.pointer (some ⟨G2,0,none⟩)] _ _); refine (zbl z _ G2 _ _ _ (HZ.out.slot.below (by repeat (with_reducible first|exact Below.refl _ _|exact hB3|apply zap|apply zab|apply zaa|refine bthen ?_ hb2|refine bthen ?_ hb1))) (hr3.below (by repeat (with_reducible first|exact Below.refl _ _|apply zap|apply zab|apply zaa|refine bthen ?_ hb2|refine bthen ?_ hb1))) (by first|exact ht2.below (by repeat (with_reducible first|exact Below.refl _ _|apply zap|apply zab|apply zaa|refine bthen ?_ hb2|refine bthen ?_ hb1))|exact ((ht2.below (by repeat (with_reducible first|exact Below.refl _ _|apply zap|apply zab|apply zaa|refine bthen ?_ hb2|refine bthen ?_ hb1))).upd hu3 (by (try simp only [World.size_alloc,World.size_drew] at hG2); (try simp only [World.size_alloc,World.size_drew] at hD1); (have k1:=hb1.size; (try simp only [World.size_alloc,World.size_drew] at k1); (try have k2:=hb2.size); (try simp only [World.size_alloc,World.size_drew] at k2); omega))).below (by repeat (with_reducible first|exact Below.refl _ _|apply zap|apply zab|apply zaa|refine bthen ?_ hb2|refine bthen ?_ hb1))) HER.out HTT.out (by decide)).mono ?_; rintro e w4 ⟨rfl,hr4,hu4⟩; have hK4:KeepB W w4 z:=(hu4.lift (by repeat (with_reducible first|exact Below.refl _ _|exact hB3|apply zap|apply zab|apply zaa|refine bthen ?_ hb2|refine bthen ?_ hb1))).keepB)
   ))
 all_goals
  go_wp2
  go_ret
  first|exact ⟨rfl,fun _=>hr4,hK4⟩|exact ⟨rfl,hr4,hK4⟩
noncomputable def rat_Round.f (a0_0 a0_1:ByteArray) (a1:Int):Option (ByteArray×ByteArray×Int):=oneF (fun _=>if a1 < -600∨600<a1 then 1 else 0) (fun x=>((evenR (x*tenR a1):Int):Rat)*tenR (-a1)) a0_0 a0_1
theorem rat_Round.calls (a0 a1:ByteArray) (p:Int) (r1 r2:ByteArray) (r3:Int) (w:World) (h:rat_Round.f a0 a1 p=some (r1,r2,r3)) :
  Calls Tryz.prog 55 #[.agg #[.string a0,.string a1],.int .i64 p] w fun e w'=>e = .returned (.tuple #[.agg #[.string r1,.string r2],.int .i64 r3])∧Below w.heap.size w w':=by
 refine Round_wrap a0 a1 p w (r1,r2,r3) (fun W B _ _ hB => ?_)
 unfold rat_Round.f at h
 by_cases hh:∃ x,RR a0 a1 x
 ·obtain ⟨x,hx⟩:=hh
  rw [oneF_yes hx] at h
  rw [←Option.some.inj h]
  refine one_yes a0 a1 x 135 #[.pointer (some ⟨B,0,none⟩)] _ _ W (enters_of Tryz.func135 (by kernel_rfl) rfl) hx ?_ (fun hw => ?_) (n:=8000) (by decide)
  ·by_cases hp:p < -600∨600<p
   ·rw [if_pos hp]; exact Round_do1 W x p B hB hp _
   ·rw [if_neg hp]; exact Round_do2 W x p B hB (by omega) hx.bd
  ·by_cases hp:p < -600∨600<p
   ·rw [if_pos hp] at hw; cases hw
   ·have hpn:p.natAbs≤600:=by omega
    have h1:=Bdr.int (bd_even ((hx.bd.mul (Bdr.tenR p)).mono (show 2000+(4*p.natAbs+1)≤4401 by omega))) (by decide)
    exact (h1.mul ((Bdr.tenR (-p)).mono (show 4*(-p).natAbs+1≤2401 by omega))).mono (by decide)
 ·rw [oneF_no hh] at h
  rw [←Option.some.inj h]
  exact one_no a0 a1 135 #[.pointer (some ⟨B,0,none⟩)] W hh
structure St4 (w W:World) (A B X Y:Nat) (a0 a1 b0 b1 x0 x1 y0 y1:ByteArray):Prop where
 a:RbAt W A a0 a1
 b:RbAt W B b0 b1
 x:RbAt W X x0 x1
 y:RbAt W Y y0 y1
 hb:Below w.heap.size w W
 d:w.heap.size≤X∧A<X∧B<X∧X<Y
theorem St4.call {w W W':World} {A B X Y:Nat} {a0 a1 b0 b1 x0 x1 y0 y1:ByteArray} (h:St4 w W A B X Y a0 a1 b0 b1 x0 x1 y0 y1) (k:Below W.heap.size W W'):St4 w W' A B X Y a0 a1 b0 b1 x0 x1 y0 y1:=
 ⟨h.a.below k,h.b.below k,h.x.below k,h.y.below k,bthen h.hb k,h.d⟩
theorem told_rr2 {x:Rat} (h:(toldR x).2.2=0):RR (toldR x).1 (toldR x).2.1 x∧toldR x=(wtext x.num,T x.den,0):=by
 by_cases hs:Sm x
 ·have e:toldR x=(wtext x.num,T x.den,0):=if_pos hs
  rw [e]
  exact ⟨⟨rfl,rfl,hs.1,hs.2⟩,rfl⟩
 ·have e:toldR x=(⟨#[]⟩,⟨#[]⟩,7):=if_neg hs
  rw [e] at h; cases h
theorem told_e (x:Rat):(toldR x).2.2=0∨(toldR x).2.2=7:=by
 unfold toldR; split
 ·exact Or.inl rfl
 ·exact Or.inr rfl
theorem told_parts2 (x:Rat):∃ r1 r2 r3,toldR x=(r1,r2,r3)∧(r3=0∨r3=7):=⟨_,_,_,rfl,told_e x⟩
theorem told_read2 {x:Rat} {r1 r2:ByteArray} (h:toldR x=(r1,r2,0)):RR r1 r2 x:=by
 have h1:=(told_rr2 (x:=x) (by rw [h])).1
 rw [h] at h1
 exact h1
end Go.Proofs.ZQ
end
