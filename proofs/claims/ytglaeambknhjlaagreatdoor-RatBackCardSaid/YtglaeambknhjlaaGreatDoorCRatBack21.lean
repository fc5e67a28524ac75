/- Texts under the proof, joined by a program (prune.py): QBack, Q151, LawRatBack. -/
import Derived.Test.YtglaeambknhjlaaGreatDoorCRatBack16
import Derived.Test.YtglaeambknhjlaaGreatDoorCRatBack17
import Derived.Test.YtglaeambknhjlaaGreatDoorCRatBack20
import Derived.Deep.CutRange
import Derived.Test.YtglaeambknhjlaaGreatDoorCRatBack13
import Derived.Test.YtglaeambknhjlaaGreatDoorCRatBack09
import Derived.Test.YtglaeambknhjlaaGreatDoorCRatBack14
set_option linter.unusedVariables false
set_option linter.unusedSimpArgs false
set_option exponentiation.threshold 20001
set_option maxHeartbeats 8000000
set_option maxRecDepth 100000
section
namespace Go.Proofs.ZQ
open Go.RowKit Go.Proofs.ZW.Wa Go.Proofs.ZP Go.Proofs.ZW.Wb Go.Proofs.ZW.Wc
theorem back_out (a0 a1:ByteArray) (n:Int) (HR:Ans 36 #[.agg #[.string a0,.string a1]] (.bool false)) (HW:Ans 32 #[] (.bool true)):Ans 13 #[.agg #[.string a0,.string a1],.int .i64 n] (.bool true):=by
  intro w
  have HR:=Lib.hid HR
  have HW:=Lib.hid HW
  go_enter Tryz.func13,Tryz.ntmps13
  have hba:=zaa (Below.refl w.heap.size w) (.cells #[.string a0,.string a1] 23)
  go_wp2_with fail
  generalize w.alloc (.cells #[.string a0,.string a1] 23)=W0 at *
  have HBA:=Lib.hid hba
  clear hba
  refine (HR.out _).mono ?_
  rintro e w1 ⟨rfl,hb⟩
  replace HBA:=Lib.hid (bthen HBA.out hb)
  clear hb
  go_wp2_with fail
  refine (HW.out _).mono ?_
  rintro e w2 ⟨rfl,hb⟩
  have HF:=Lib.hid (bthen HBA.out hb)
  clear hb
  go_wp2
  go_ret
  exact ⟨rfl,HF.out⟩
theorem back_walk (a0 a1 s d y0 y1 zz f0:ByteArray) (x0 u0 m0 o0 t0 v0:Bool) (x1 x2 u1 u2 m1 m2 o1 o2 t1 t2 v1 v2:ByteArray) (n p de ye i0 i1 c c2:Int) (hn0 : -9223372036854775808≤n) (hn1:n≤9223372036854775807) (hpn:wrap64 ((IntKind.u64.wrap n).tmod 200)=p) (hp0:0≤p∧p<200) (hde:de=0∨de=7) (hye:ye=0∨ye=7) (hzz:zz.size≤200) (hc:c≤0) (hc2:c2≤0)
    (HR:Ans 36 #[.agg #[.string a0,.string a1]] (.bool true))
    (HP:Ans 29 #[.agg #[.string a0,.string a1]] (.tuple #[.string s,.int .i64 0]))
    (HPa:Ans 59 #[.string s] (.tuple #[.agg #[.string a0,.string a1],.int .i64 0,.int .i64 i0]))
    (HD:Ans 31 #[.agg #[.string a0,.string a1],.int .i64 p] (.tuple #[.string d,.int .i64 de]))
    (HRo:Ans 55 #[.agg #[.string a0,.string a1],.int .i64 p] (.tuple #[.agg #[.string y0,.string y1],.int .i64 ye]))
    (HPd:de=0→ye=0→Ans 59 #[.string d] (.tuple #[.agg #[.string y0,.string y1],.int .i64 0,.int .i64 i1]))
    (HX:Ans 61 #[.agg #[.string a0,.string a1]] (.agg #[.bool x0,.string x1,.string x2]))
    (HY:de=0→ye=0→Ans 61 #[.agg #[.string y0,.string y1]] (.agg #[.bool u0,.string u1,.string u2]))
    (HM:Ans 62 #[.agg #[.bool u0,.string u1,.string u2]] (.agg #[.bool m0,.string m1,.string m2]))
    (HO:Ans 60 #[.agg #[.bool x0,.string x1,.string x2],.agg #[.bool m0,.string m1,.string m2]] (.agg #[.bool o0,.string o1,.string o2]))
    (HZ:Ans 65 #[.int .i64 p] (.string zz))
    (HT:Ans 64 #[.agg #[.bool false,.string o1,.string o2],.agg #[.bool false,.string ((⟨#[50]⟩:ByteArray)++zz),.string ⟨#[49]⟩]] (.agg #[.bool t0,.string t1,.string t2]))
    (HW1:Ans 66 #[.int .i64 1] (.agg #[.bool v0,.string v1,.string v2]))
    (HC:Ans 63 #[.agg #[.bool t0,.string t1,.string t2],.agg #[.bool v0,.string v1,.string v2]] (.int .i64 c))
    (HFl:Ans 53 #[.agg #[.string a0,.string a1]] (.tuple #[.agg #[.string f0,.string ⟨#[49]⟩],.int .i64 0]))
    (HCm:Ans 43 #[.agg #[.string f0,.string ⟨#[49]⟩],.agg #[.string a0,.string a1]] (.tuple #[.int .i64 c2,.int .i64 0]))
    (HW:Ans 32 #[] (.bool true)) :
    Ans 13 #[.agg #[.string a0,.string a1],.int .i64 n] (.bool true):=by
  intro w
  have HR:=Lib.hid HR
  have HP:=Lib.hid HP
  have HPa:=Lib.hid HPa
  have HD:=Lib.hid HD
  have HRo:=Lib.hid HRo
  have HPd:=Lib.hid HPd
  have HX:=Lib.hid HX
  have HY:=Lib.hid HY
  have HM:=Lib.hid HM
  have HO:=Lib.hid HO
  have HZ:=Lib.hid HZ
  have HT:=Lib.hid HT
  have HW1:=Lib.hid HW1
  have HC:=Lib.hid HC
  have HFl:=Lib.hid HFl
  have HCm:=Lib.hid HCm
  have HW:=Lib.hid HW
  have HPN:=Lib.hid hpn
  have HDE:=Lib.hid hde
  have HYE:=Lib.hid hye
  have HZZ:=Lib.hid hzz
  have HCC:=Lib.hid (And.intro hc hc2)
  clear hpn hde hye hzz hc hc2 hn0 hn1
  go_enter Tryz.func13,Tryz.ntmps13
  have fa:=RbAt.new w a0 a1
  have hba:=zaa (Below.refl w.heap.size w) (.cells #[.string a0,.string a1] 23)
  go_wp2_with fail
  generalize w.alloc (.cells #[.string a0,.string a1] 23)=W0 at *
  have HFa:=Lib.hid fa
  have HBA:=Lib.hid hba
  clear fa hba
  refine (HR.out _).mono ?_
  rintro e w1 ⟨rfl,hb⟩
  replace HFa:=Lib.hid (HFa.out.below hb)
  replace HBA:=Lib.hid (bthen HBA.out hb)
  clear hb
  have ca0:=HFa.out.c0
  have ca1:=HFa.out.c1
  go_wp2_with fail
  clear ca0 ca1
  refine (HP.out _).mono ?_
  rintro e w2 ⟨rfl,hb⟩
  replace HFa:=Lib.hid (HFa.out.below hb)
  replace HBA:=Lib.hid (bthen HBA.out hb)
  clear hb
  go_wp2_with fail
  refine (HPa.out _).mono ?_
  rintro e w3 ⟨rfl,hb⟩
  replace HFa:=Lib.hid ((HFa.out.below hb).alloc (.cells #[.string a0,.string a1] 23))
  have HFx:=Lib.hid (RbAt.new w3 a0 a1)
  replace HBA:=Lib.hid (bthen (bthen HBA.out hb) (zaa (Below.refl _ _) (.cells #[.string a0,.string a1] 23)))
  clear hb
  have cx0:=HFx.out.c0
  have cx1:=HFx.out.c1
  have ca0:=HFa.out.c0
  have ca1:=HFa.out.c1
  go_wp2_with fail
  clear cx0 cx1 ca0 ca1
  generalize w3.alloc (.cells #[.string a0,.string a1] 23)=v3 at *
  generalize w3.heap.size=Px at *
  rw [HPN.out]
  refine (HD.out _).mono ?_
  rintro e w4 ⟨rfl,hb⟩
  replace HFa:=Lib.hid (HFa.out.below hb)
  replace HBA:=Lib.hid (bthen HBA.out hb)
  clear hb
  have ca0:=HFa.out.c0
  have ca1:=HFa.out.c1
  go_wp2_with fail
  clear ca0 ca1
  refine (HRo.out _).mono ?_
  rintro e w5 ⟨rfl,hb⟩
  replace HFa:=Lib.hid ((HFa.out.below hb).alloc (.cells #[.string y0,.string y1] 23))
  have HFy:=Lib.hid (RbAt.new w5 y0 y1)
  replace HBA:=Lib.hid (bthen (bthen HBA.out hb) (zaa (Below.refl _ _) (.cells #[.string y0,.string y1] 23)))
  clear hb HFx
  rcases HDE.out with rfl|rfl<;>rcases HYE.out with rfl|rfl
  rotate_left
  all_goals try (go_wp2_with fail; refine (HW.out _).mono ?_; rintro e wz ⟨rfl,hb⟩; have HF:=Lib.hid (bthen HBA.out hb); clear hb; go_wp2; go_ret; exact ⟨rfl,HF.out⟩)
  go_wp2_with fail
  generalize w5.alloc (.cells #[.string y0,.string y1] 23)=v5 at *
  generalize w5.heap.size=Py at *
  refine (HPd.out (by first|rfl|trivial) (by first|rfl|trivial) _).mono ?_
  rintro e w6 ⟨rfl,hb⟩
  replace HFa:=Lib.hid ((HFa.out.below hb).alloc (.cells #[.string y0,.string y1] 23))
  replace HFy:=Lib.hid ((HFy.out.below hb).alloc (.cells #[.string y0,.string y1] 23))
  have HFz:=Lib.hid (RbAt.new w6 y0 y1)
  replace HBA:=Lib.hid (bthen (bthen HBA.out hb) (zaa (Below.refl _ _) (.cells #[.string y0,.string y1] 23)))
  clear hb
  go_wp2_with fail
  generalize w6.alloc (.cells #[.string y0,.string y1] 23)=v6 at *
  generalize w6.heap.size=Pz at *
  have HK:=Lib.hid (show ∀ W':World,Below v6.heap.size v6 W'→(fun w':World=>w'.cell? ⟨w.heap.size,0,none⟩=some (.string a0)∧w'.cell? ⟨w.heap.size,1,none⟩=some (.string a1)∧w'.cell? ⟨Py,0,none⟩=some (.string y0)∧w'.cell? ⟨Py,1,none⟩=some (.string y1)) W' from fun W' h=>⟨(HFa.out.below h).c0,(HFa.out.below h).c1,(HFy.out.below h).c0,(HFy.out.below h).c1⟩)
  have HQS:=Lib.hid (show ∀ (W':World) (D:Nat) (u v t:Value),v6.heap.size≤D→Below v6.heap.size v6 W'→(fun w':World=>w'.cell? ⟨w.heap.size,0,none⟩=some (.string a0)∧w'.cell? ⟨w.heap.size,1,none⟩=some (.string a1)∧w'.cell? ⟨Py,0,none⟩=some (.string y0)∧w'.cell? ⟨Py,1,none⟩=some (.string y1)) (((W'.setCell ⟨D,0,none⟩ u).setCell ⟨D,1,none⟩ v).setCell ⟨D,2,none⟩ t) from fun W' D u v t hD h=>HK.out _ (Below.setCell (p:=⟨D,2,none⟩) (Below.setCell (p:=⟨D,1,none⟩) (Below.setCell (p:=⟨D,0,none⟩) h hD u) hD v) hD t))
  dsimp only at HK HQS
  go_cut [15] from 18 (fun s15 wx=>∃ D,s15 = .pointer (some ⟨D,0,none⟩)∧FrAt wx D o0 o1 o2∧RbAt wx w.heap.size a0 a1∧RbAt wx Py y0 y1∧RbAt wx Pz y0 y1∧Below w.heap.size w wx∧w.heap.size≤D)
  case first =>
   go_region_held3 (fun w'=>w'.cell? ⟨w.heap.size,0,none⟩=some (.string a0)∧w'.cell? ⟨w.heap.size,1,none⟩=some (.string a1)∧w'.cell? ⟨Py,0,none⟩=some (.string y0)∧w'.cell? ⟨Py,1,none⟩=some (.string y1))
    (first|((with_reducible refine HQS.out _ _ _ _ _ ?_ ?_); (first|exact hZ|exact Nat.le_trans hbr1.size (Nat.le_trans hbr2.size (Nat.le_trans hbr3.size hbr4.size))); repeat (with_reducible first|exact Below.refl _ _|apply zap|apply zab|apply zaa|refine bthen ?_ hbr4|refine bthen ?_ hbr3|refine bthen ?_ hbr2|refine bthen ?_ hbr1))|((with_reducible refine HK.out _ ?_); repeat (with_reducible first|exact Below.refl _ _|apply zap|apply zab|apply zaa|refine bthen ?_ hbr4|refine bthen ?_ hbr3|refine bthen ?_ hbr2|refine bthen ?_ hbr1)))
    ((first
      | (go_simp; go_at_call 61; (with_reducible change Calls _ _ #[.agg #[.string a0,.string a1]] _ _); refine (HX.out _).mono ?_; rintro e wr1 ⟨rfl,hbr1⟩)
      | (go_simp; go_at_call 61; (with_reducible change Calls _ _ #[.agg #[.string y0,.string y1]] _ _); refine (HY.out (by first|rfl|trivial) (by first|rfl|trivial) _).mono ?_; rintro e wr2 ⟨rfl,hbr2⟩)
      | (go_simp; go_at_call 62; refine (HM.out _).mono ?_; rintro e wr3 ⟨rfl,hbr3⟩)
      | (go_simp; go_at_call 60; refine (HO.out _).mono ?_; rintro e wr4 ⟨rfl,hbr4⟩; first|(have f2:=(show FrAt wr4 wr3.heap.size false ⟨#[]⟩ ⟨#[]⟩ from (FrAt.new wr3 false ⟨#[]⟩ ⟨#[]⟩).below hbr4); have hZ:v6.heap.size≤_:=Nat.le_trans hbr1.size (Nat.le_trans hbr2.size hbr3.size); have e0:=f2.c0; have e1:=f2.c1; have e2:=f2.c2; have g0:=zad f2 0; have g1:=zad f2 1; have g2:=zad f2 2)|(have f2:=(show FrAt wr4 wr2.heap.size false ⟨#[]⟩ ⟨#[]⟩ from ((FrAt.new wr2 false ⟨#[]⟩ ⟨#[]⟩).below hbr3).below hbr4); have hZ:v6.heap.size≤_:=Nat.le_trans hbr1.size hbr2.size; have e0:=f2.c0; have e1:=f2.c1; have e2:=f2.c2; have g0:=zad f2 0; have g1:=zad f2 1; have g2:=zad f2 2)|(have f2:=(show FrAt wr4 wr1.heap.size false ⟨#[]⟩ ⟨#[]⟩ from (((FrAt.new wr1 false ⟨#[]⟩ ⟨#[]⟩).below hbr2).below hbr3).below hbr4); have hZ:v6.heap.size≤_:=hbr1.size; have e0:=f2.c0; have e1:=f2.c1; have e2:=f2.c2; have g0:=zad f2 0; have g1:=zad f2 1; have g2:=zad f2 2)|(have f2:=(show FrAt wr4 v6.heap.size false ⟨#[]⟩ ⟨#[]⟩ from ((((FrAt.new v6.drew false ⟨#[]⟩ ⟨#[]⟩).below hbr1).below hbr2).below hbr3).below hbr4); have hZ:v6.heap.size≤_:=Nat.le_refl _; have e0:=f2.c0; have e1:=f2.c1; have e2:=f2.c2; have g0:=zad f2 0; have g1:=zad f2 1; have g2:=zad f2 2)|skip)))
   all_goals
    rename_i hHeld
    clear hHeld HK HQS HX HY HM HO
    have hB4:Below v6.heap.size v6 wr4:=by repeat (with_reducible first|exact Below.refl _ _|apply zap|apply zab|apply zaa|refine bthen ?_ hbr4|refine bthen ?_ hbr3|refine bthen ?_ hbr2|refine bthen ?_ hbr1)
    first
    | (obtain ⟨hF,hBF⟩:=fr_put f2 hB4 hZ o0 o1 o2; have hDD:=Nat.le_trans HBA.out.size hZ; clear f2 hZ; generalize World.setCell _ _ _=wF at hF hBF ⊢)
    | (have hDD:=Nat.le_trans HBA.out.size hB4.size; have hF:=FrAt.new wr4 o0 o1 o2; have hBF:=zaa hB4 (.cells #[.bool o0,.string o1,.string o2] 66); generalize World.alloc _ _=wF at hF hBF ⊢)
    go_wp2_with fail
    go_meet
    exact ⟨_,rfl,hF,HFa.out.below hBF,HFy.out.below hBF,HFz.out.below hBF,bthen HBA.out hBF,hDD⟩
  case rest =>
    obtain ⟨D,rfl,hF,ha,hy,hz,hB,hD⟩:=hcut
    have n0:w.heap.size≠D:=fun e=>by subst e; unfold FrAt at hF; unfold RbAt at ha; rw [hF] at ha; cases ha
    have n1:Py≠D:=fun e=>by subst e; unfold FrAt at hF; unfold RbAt at hy; rw [hF] at hy; cases hy
    have n2:Pz≠D:=fun e=>by subst e; unfold FrAt at hF; unfold RbAt at hz; rw [hF] at hz; cases hz
    have d0:=hF.c0
    have g0:=zad hF 0
    have hF5:FrAt (wc.setCell ⟨D,0,none⟩ (.bool false)) D false o1 o2:=(zat hF 0 (.bool false)).trans rfl
    have ha5:RbAt (wc.setCell ⟨D,0,none⟩ (.bool false)) w.heap.size a0 a1:=(Below.heap_setCell wc ⟨D,0,none⟩ _ _ n0).trans ha
    have hy5:RbAt (wc.setCell ⟨D,0,none⟩ (.bool false)) Py y0 y1:=(Below.heap_setCell wc ⟨D,0,none⟩ _ _ n1).trans hy
    have hz5:RbAt (wc.setCell ⟨D,0,none⟩ (.bool false)) Pz y0 y1:=(Below.heap_setCell wc ⟨D,0,none⟩ _ _ n2).trans hz
    have hB5:=zag (g:=D) (j:=0) (v:=.bool false) hB hD
    have HF5:=Lib.hid hF5
    have HA5:=Lib.hid ha5
    have HY5:=Lib.hid hy5
    have HZ5:=Lib.hid hz5
    have HB5:=Lib.hid hB5
    clear HFa HFy HFz HBA HK HQS HX HY HM HO hF ha hy hz hB hD n0 n1 n2 hF5 ha5 hy5 hz5 hB5
    go_wp2_with fail
    clear d0 g0
    generalize wc.setCell ⟨D,0,none⟩ (.bool false)=WF at *
    have hcn:¬ c>0:=by have:=HCC.out.1; omega
    have hs1:1+zz.size≤9223372036854775807:=by have:=HZZ.out; omega
    have hs2:(9223372036854775807<1+zz.size)=False:=eq_false (Nat.not_lt.2 hs1)
    have hs3:(⟨#[50]⟩:ByteArray).size+zz.size≤9223372036854775807:=hs1
    have hs4:((⟨#[50]⟩:ByteArray)++zz).size≤9223372036854775807:=by rw [ByteArray.size_append]; exact hs1
    have HK:=Lib.hid (show ∀ W':World,Below WF.heap.size WF W'→(fun w':World=>w'.cell? ⟨Pz,0,none⟩=some (.string y0)∧w'.cell? ⟨Pz,1,none⟩=some (.string y1)∧w'.cell? ⟨Py,0,none⟩=some (.string y0)∧w'.cell? ⟨Py,1,none⟩=some (.string y1)∧w'.cell? ⟨D,0,none⟩=some (.bool false)∧w'.cell? ⟨D,1,none⟩=some (.string o1)∧w'.cell? ⟨D,2,none⟩=some (.string o2)) W' from fun W' h=>⟨(HZ5.out.below h).c0,(HZ5.out.below h).c1,(HY5.out.below h).c0,(HY5.out.below h).c1,(HF5.out.below h).c0,(HF5.out.below h).c1,(HF5.out.below h).c2⟩)
    dsimp only at HK
    go_region_held3 (fun w'=>w'.cell? ⟨Pz,0,none⟩=some (.string y0)∧w'.cell? ⟨Pz,1,none⟩=some (.string y1)∧w'.cell? ⟨Py,0,none⟩=some (.string y0)∧w'.cell? ⟨Py,1,none⟩=some (.string y1)∧w'.cell? ⟨D,0,none⟩=some (.bool false)∧w'.cell? ⟨D,1,none⟩=some (.string o1)∧w'.cell? ⟨D,2,none⟩=some (.string o2))
      ((with_reducible refine HK.out _ ?_; repeat (with_reducible first|exact Below.refl _ _|apply zap|apply zab|refine bthen ?_ hbr4|refine bthen ?_ hbr3|refine bthen ?_ hbr2|refine bthen ?_ hbr1)))
      ((first
        | (go_simp; go_at_call 65; refine (HZ.out _).mono ?_; rintro e wr1 ⟨rfl,hbr1⟩)
        | (go_simp; go_at_call 64; refine (HT.out _).mono ?_; rintro e wr2 ⟨rfl,hbr2⟩)
        | (go_simp; go_at_call 66; refine (HW1.out _).mono ?_; rintro e wr3 ⟨rfl,hbr3⟩)
        | (go_simp; go_at_call 63; refine (HC.out _).mono ?_; rintro e wr4 ⟨rfl,hbr4⟩)))
    all_goals
      rename_i hHeld
      clear hHeld HK hs1 hs2 hs3 hs4 HZ HT HW1 HC HZZ
      have hb4:Below WF.heap.size WF wr4:=by repeat (with_reducible first|exact Below.refl _ _|apply zap|apply zab|refine bthen ?_ hbr4|refine bthen ?_ hbr3|refine bthen ?_ hbr2|refine bthen ?_ hbr1)
      have ha:=HA5.out.below hb4
      have HA6:=Lib.hid ha
      have HB6:=Lib.hid (bthen HB5.out hb4)
      have p0:=ha.c0
      have p1:=ha.c1
      clear hb4 hbr1 hbr2 hbr3 hbr4 ha HA5 HY5 HZ5 HF5 HB5
      go_wp2_with fail
      clear p0 p1 hcn
      refine (HFl.out _).mono ?_
      rintro e w20 ⟨rfl,hb⟩
      have hw:=RbAt.new w20 f0 ⟨#[49]⟩
      have ha:=(HA6.out.below hb).alloc (.cells #[.string f0,.string ⟨#[49]⟩] 23)
      have HW6:=Lib.hid hw
      have HB7:=Lib.hid (bthen (bthen HB6.out hb) (zaa (Below.refl _ _) (.cells #[.string f0,.string ⟨#[49]⟩] 23)))
      have p0:=ha.c0
      have p1:=ha.c1
      have p2:=hw.c0
      have p3:=hw.c1
      clear ha hw hb HA6 HB6
      go_wp2_with fail
      clear p0 p1 p2 p3
      generalize w20.alloc (.cells #[.string f0,.string ⟨#[49]⟩] 23)=w21 at *
      generalize w20.heap.size=Pw at *
      refine (HCm.out _).mono ?_
      rintro e w22 ⟨rfl,hb⟩
      have q1:=(HW6.out.below hb).c1
      have HB8:=Lib.hid (bthen HB7.out hb)
      have hc2:c2≤0:=HCC.out.2
      clear hb HW6 HB7
      go_wp2_with fail
      clear q1 hc2
      refine (HW.out _).mono ?_
      rintro e w23 ⟨rfl,hb⟩
      have HB9:=Lib.hid (bthen HB8.out hb)
      clear hb
      go_wp2
      go_ret
      exact ⟨rfl,HB9.out⟩
end Go.Proofs.ZQ
end
section
namespace Go.Proofs.ZQ
open Go.RowKit Go.Proofs.ZW.Wa Go.Proofs.ZW.Wb Go.Proofs.ZW.Wc
attribute [local go_sem] zaH zaF zaQ zaP zaB zaA zaG zaE
noncomputable def rat_Print.f (a0_0:ByteArray) (a0_1:ByteArray):Option (ByteArray×Int):=(rat_Right.f a0_0 a0_1).bind fun t531=>(if t531=true then (if a0_1.toList=([49]:List UInt8) then (some (a0_0,0)) else (if a0_0.size+1≤9223372036854775807 then (if (a0_0++(⟨#[47]⟩:ByteArray)).size+a0_1.size≤9223372036854775807 then (some ((a0_0++(⟨#[47]⟩:ByteArray))++a0_1,0)) else (none)) else (none))) else (some ((⟨#[]⟩:ByteArray),3)))
theorem rat_Print.calls (a0_0:ByteArray) (a0_1:ByteArray) (r1:ByteArray) (r2:Int) (w:World) (h:rat_Print.f a0_0 a0_1=some (r1,r2)) :
  Calls Tryz.prog 29 #[.agg #[.string a0_0,.string a0_1]] w fun e w'=>e = .returned (.tuple #[.string r1,.int .i64 r2])∧Below w.heap.size w w':=by
 have hu23:=Tryz.underlying23
 have HB:=Aside0.mk (Below.refl w.heap.size w)
 have H:((rat_Right.f a0_0 a0_1).bind fun t531=>(if t531=true then (if a0_1.toList=([49]:List UInt8) then (some (a0_0,0)) else (if a0_0.size+1≤9223372036854775807 then (if (a0_0++(⟨#[47]⟩:ByteArray)).size+a0_1.size≤9223372036854775807 then (some ((a0_0++(⟨#[47]⟩:ByteArray))++a0_1,0)) else (none)) else (none))) else (some ((⟨#[]⟩:ByteArray),3))))=some (r1,r2):=h
 clear h
 replace H:=Option.bind_eq_some_iff.mp H
 obtain ⟨t531,A20,H⟩:=H
 replace H:(if t531=true then (if a0_1.toList=([49]:List UInt8) then (some (a0_0,0)) else (if a0_0.size+1≤9223372036854775807 then (if (a0_0++(⟨#[47]⟩:ByteArray)).size+a0_1.size≤9223372036854775807 then (some ((a0_0++(⟨#[47]⟩:ByteArray))++a0_1,0)) else (none)) else (none))) else (some ((⟨#[]⟩:ByteArray),3)))=some (r1,r2):=H
 have A2:=Aside0.mk A20
 clear A20
 by_cases c3:t531=true
 ·subst c3
  have H1:(if a0_1.toList=([49]:List UInt8) then (some (a0_0,0)) else (if a0_0.size+1≤9223372036854775807 then (if (a0_0++(⟨#[47]⟩:ByteArray)).size+a0_1.size≤9223372036854775807 then (some ((a0_0++(⟨#[47]⟩:ByteArray))++a0_1,0)) else (none)) else (none)))=some (r1,r2):=by rw [if_pos rfl] at H; exact H
  clear H
  have H:=H1
  clear H1
  by_cases c4:a0_1.toList=([49]:List UInt8)
  ·rw [if_pos c4] at H
   have c4b0:(a0_1.toList == ([49]:List UInt8))=true:=beq_iff_eq.mpr c4
   clear c4
   simp only [Option.some.injEq,Prod.mk.injEq] at H
   obtain ⟨rfl,rfl⟩:=H
   go_enter Tryz.func29,Tryz.ntmps29
   go_wp2_with (first|((with_reducible refine zaI (N:=1) rfl ?_); refine zaO ?hg (N:=1) ?hd (cs:=#[.string a0_0,.string a0_1]) (t:=23) ?hr ?_; (case hd=>rfl); (case hg=>rfl); (case hr=>first|(go_simp; done)|(go_simp; rfl)); intro gb530 hg w5 hbox hb; have n0_:=Aside0.mk (zam (by repeat (first|(with_reducible first|exact HB.out|apply zaa|apply zab|apply zac)|exact HB.out)) hb); have n1_:=Aside0.mk (hbox); have n2_:=Aside0.mk ((by rw [hg]; exact (zao (by repeat (first|(with_reducible first|exact HB.out|apply zaa|apply zab|apply zac)|exact HB.out))):w.heap.size≤gb530)); have n3_:=Aside0.mk ((by rw [hg]; exact (zao (by repeat (first|(with_reducible first|exact HB.out|apply zaa|apply zab|apply zac)|exact HB.out))):w.heap.size≤gb530)); clear HB; have HB:=n0_; have BK530:=n1_; have GW530:=n2_; have GE530:=n3_; clear n0_ n1_ n2_ n3_; clear hb hbox hg; have hcz6_0:w5.cell? ⟨gb530,0,none⟩=some (.string a0_0):=(zaf BK530.out 0).trans rfl; have hcz6_1:w5.cell? ⟨gb530,1,none⟩=some (.string a0_1):=(zaf BK530.out 1).trans rfl; have hfz6_0:=zad BK530.out 0; have hfz6_1:=zad BK530.out 1)|((with_reducible refine zas (f:=35) rfl ?_); refine zaS (some 6) rfl rfl Tryz.func35 (by kernel_rfl) rfl #[.agg #[.string a0_0,.string a0_1]] rfl (by (try simp only [List.map_toArray,List.map_cons,List.map_nil]); first|done|rfl|(simp only [List.length_drop,List.length_take]; rfl)) ?_; (with_reducible refine (rat_Right.calls a0_0 a0_1 true _ A2.out).mono ?_); rintro e w7 ⟨rfl,hb⟩; refine ⟨_,rfl,?_⟩; have n0_:=Aside0.mk (zau (g:=gb530) (o:=.cells #[.string a0_0,.string a0_1] 23 (0,0)) (by (with_reducible repeat (first|refine zah ?_ _|refine zaj ?_|refine zai ?_ _)); exact BK530.out) hb); have n1_:=Aside0.mk (zam (by repeat (first|(with_reducible first|exact HB.out|apply zaa|apply zab|apply zac|refine zag ?_ GE530.out)|exact HB.out)) hb); clear BK530; clear HB; have BK530:=n0_; have HB:=n1_; clear n0_ n1_; (try clear hb); (try clear hb2); (try clear hk); (try clear hi); have hcz8_0:w7.cell? ⟨gb530,0,none⟩=some (.string a0_0):=(zaf BK530.out 0).trans rfl; have hcz8_1:w7.cell? ⟨gb530,1,none⟩=some (.string a0_1):=(zaf BK530.out 1).trans rfl; have hfz8_0:=zad BK530.out 0; have hfz8_1:=zad BK530.out 1))
   go_ret2
   exact ⟨by first|rfl|(simp [zal,zak]<;>rfl)|(simp [*,zal,zak]<;>rfl),by repeat (first|(with_reducible first|exact HB.out|apply zaa|apply zab|apply zac|refine zag ?_ GE530.out)|exact HB.out)⟩
  ·rw [if_neg c4] at H
   have c4b0:(a0_1.toList == ([49]:List UInt8))=false:=beq_eq_false_iff_ne.mpr c4
   by_cases c9:a0_0.size+1≤9223372036854775807
   ·rw [if_pos c9] at H
    by_cases c10:(a0_0++(⟨#[47]⟩:ByteArray)).size+a0_1.size≤9223372036854775807
    ·rw [if_pos c10] at H
     simp only [Option.some.injEq,Prod.mk.injEq] at H
     obtain ⟨rfl,rfl⟩:=H
     go_enter Tryz.func29,Tryz.ntmps29
     go_wp2_with (first|((with_reducible refine zaI (N:=1) rfl ?_); refine zaO ?hg (N:=1) ?hd (cs:=#[.string a0_0,.string a0_1]) (t:=23) ?hr ?_; (case hd=>rfl); (case hg=>rfl); (case hr=>first|(go_simp; done)|(go_simp; rfl)); intro gb530 hg w11 hbox hb; have n0_:=Aside0.mk (zam (by repeat (first|(with_reducible first|exact HB.out|apply zaa|apply zab|apply zac)|exact HB.out)) hb); have n1_:=Aside0.mk (hbox); have n2_:=Aside0.mk ((by rw [hg]; exact (zao (by repeat (first|(with_reducible first|exact HB.out|apply zaa|apply zab|apply zac)|exact HB.out))):w.heap.size≤gb530)); have n3_:=Aside0.mk ((by rw [hg]; exact (zao (by repeat (first|(with_reducible first|exact HB.out|apply zaa|apply zab|apply zac)|exact HB.out))):w.heap.size≤gb530)); clear HB; have HB:=n0_; have BK530:=n1_; have GW530:=n2_; have GE530:=n3_; clear n0_ n1_ n2_ n3_; clear hb hbox hg; have hcz12_0:w11.cell? ⟨gb530,0,none⟩=some (.string a0_0):=(zaf BK530.out 0).trans rfl; have hcz12_1:w11.cell? ⟨gb530,1,none⟩=some (.string a0_1):=(zaf BK530.out 1).trans rfl; have hfz12_0:=zad BK530.out 0; have hfz12_1:=zad BK530.out 1)|((with_reducible refine zas (f:=35) rfl ?_); refine zaS (some 6) rfl rfl Tryz.func35 (by kernel_rfl) rfl #[.agg #[.string a0_0,.string a0_1]] rfl (by (try simp only [List.map_toArray,List.map_cons,List.map_nil]); first|done|rfl|(simp only [List.length_drop,List.length_take]; rfl)) ?_; (with_reducible refine (rat_Right.calls a0_0 a0_1 true _ A2.out).mono ?_); rintro e w13 ⟨rfl,hb⟩; refine ⟨_,rfl,?_⟩; have n0_:=Aside0.mk (zau (g:=gb530) (o:=.cells #[.string a0_0,.string a0_1] 23 (0,0)) (by (with_reducible repeat (first|refine zah ?_ _|refine zaj ?_|refine zai ?_ _)); exact BK530.out) hb); have n1_:=Aside0.mk (zam (by repeat (first|(with_reducible first|exact HB.out|apply zaa|apply zab|apply zac|refine zag ?_ GE530.out)|exact HB.out)) hb); clear BK530; clear HB; have BK530:=n0_; have HB:=n1_; clear n0_ n1_; (try clear hb); (try clear hb2); (try clear hk); (try clear hi); have hcz14_0:w13.cell? ⟨gb530,0,none⟩=some (.string a0_0):=(zaf BK530.out 0).trans rfl; have hcz14_1:w13.cell? ⟨gb530,1,none⟩=some (.string a0_1):=(zaf BK530.out 1).trans rfl; have hfz14_0:=zad BK530.out 0; have hfz14_1:=zad BK530.out 1))
     go_ret2
     exact ⟨by first|rfl|(simp [zal,zak]<;>rfl)|(simp [*,zal,zak]<;>rfl),by repeat (first|(with_reducible first|exact HB.out|apply zaa|apply zab|apply zac|refine zag ?_ GE530.out)|exact HB.out)⟩
    ·rw [if_neg c10] at H
     exact absurd H (by simp)
   ·rw [if_neg c9] at H
    exact absurd H (by simp)
 ·replace c3:=Bool.eq_false_iff.mpr c3
  subst c3
  have H1:(some ((⟨#[]⟩:ByteArray),3))=some (r1,r2):=by rw [if_neg (show ¬ (false=true) by decide)] at H; exact H
  clear H
  have H:=H1
  clear H1
  simp only [Option.some.injEq,Prod.mk.injEq] at H
  obtain ⟨rfl,rfl⟩:=H
  go_enter Tryz.func29,Tryz.ntmps29
  go_wp2_with (first|((with_reducible refine zaI (N:=1) rfl ?_); refine zaO ?hg (N:=1) ?hd (cs:=#[.string a0_0,.string a0_1]) (t:=23) ?hr ?_; (case hd=>rfl); (case hg=>rfl); (case hr=>first|(go_simp; done)|(go_simp; rfl)); intro gb530 hg w15 hbox hb; have n0_:=Aside0.mk (zam (by repeat (first|(with_reducible first|exact HB.out|apply zaa|apply zab|apply zac)|exact HB.out)) hb); have n1_:=Aside0.mk (hbox); have n2_:=Aside0.mk ((by rw [hg]; exact (zao (by repeat (first|(with_reducible first|exact HB.out|apply zaa|apply zab|apply zac)|exact HB.out))):w.heap.size≤gb530)); have n3_:=Aside0.mk ((by rw [hg]; exact (zao (by repeat (first|(with_reducible first|exact HB.out|apply zaa|apply zab|apply zac)|exact HB.out))):w.heap.size≤gb530)); clear HB; have HB:=n0_; have BK530:=n1_; have GW530:=n2_; have GE530:=n3_; clear n0_ n1_ n2_ n3_; clear hb hbox hg; have hcz16_0:w15.cell? ⟨gb530,0,none⟩=some (.string a0_0):=(zaf BK530.out 0).trans rfl; have hcz16_1:w15.cell? ⟨gb530,1,none⟩=some (.string a0_1):=(zaf BK530.out 1).trans rfl; have hfz16_0:=zad BK530.out 0; have hfz16_1:=zad BK530.out 1)|((with_reducible refine zas (f:=35) rfl ?_); refine zaS (some 6) rfl rfl Tryz.func35 (by kernel_rfl) rfl #[.agg #[.string a0_0,.string a0_1]] rfl (by (try simp only [List.map_toArray,List.map_cons,List.map_nil]); first|done|rfl|(simp only [List.length_drop,List.length_take]; rfl)) ?_; (with_reducible refine (rat_Right.calls a0_0 a0_1 false _ A2.out).mono ?_); rintro e w17 ⟨rfl,hb⟩; refine ⟨_,rfl,?_⟩; have n0_:=Aside0.mk (zau (g:=gb530) (o:=.cells #[.string a0_0,.string a0_1] 23 (0,0)) (by (with_reducible repeat (first|refine zah ?_ _|refine zaj ?_|refine zai ?_ _)); exact BK530.out) hb); have n1_:=Aside0.mk (zam (by repeat (first|(with_reducible first|exact HB.out|apply zaa|apply zab|apply zac|refine zag ?_ GE530.out)|exact HB.out)) hb); clear BK530; clear HB; have BK530:=n0_; have HB:=n1_; clear n0_ n1_; (try clear hb); (try clear hb2); (try clear hk); (try clear hi)))
  go_ret2
  exact ⟨by first|rfl|(simp [zal,zak]<;>rfl)|(simp [*,zal,zak]<;>rfl),by repeat (first|(with_reducible first|exact HB.out|apply zaa|apply zab|apply zac|refine zag ?_ GE530.out)|exact HB.out)⟩
end Go.Proofs.ZQ
end
section
namespace Go.Proofs.ZQ
open Go.RowKit Go.Proofs.ZW.Wa Go.Proofs.ZP
theorem even_half (z:Rat):2*(z-(evenR z:Rat))≤1∧2*((evenR z:Rat)-z)≤1:=by
 have f1:=Rat.floor_le z
 have f2:=Rat.lt_floor_add_one z
 rw [Rat.intCast_add] at f2
 have hh:=Rat.le_iff (z-(z.floor:Rat)) (Rat.divInt 1 2)
 have hh2:=Rat.le_iff (Rat.divInt 1 2) (z-(z.floor:Rat))
 have e2:Rat.divInt 1 2=1/2:=by rw [Rat.divInt_eq_div]; rfl
 unfold evenR
 by_cases h:0<halfS z∨(halfS z=0∧z.floor.natAbs%2=1)
 ·rw [if_pos h,Rat.intCast_add]
  have hs:0≤halfS z:=by omega
  have hv:(Rat.divInt 1 2).num*(z-(z.floor:Rat)).den≤(z-(z.floor:Rat)).num*(Rat.divInt 1 2).den:=by
   unfold halfS at hs
   rcases Int.lt_or_le ((z-(z.floor:Rat)).num*(Rat.divInt 1 2).den-(Rat.divInt 1 2).num*(z-(z.floor:Rat)).den) 0 with h1|h1
   ·rw [Int.sign_eq_neg_one_of_neg h1] at hs; omega
   ·omega
  have hle:=hh2.2 hv
  rw [e2] at hle
  generalize (z.floor:Rat)=f at *
  have e1:((1:Int):Rat)=1:=rfl
  rw [e1] at f2 ⊢
  constructor<;>grind
 ·rw [if_neg h]
  have hs:halfS z≤0:=by omega
  have hv:(z-(z.floor:Rat)).num*(Rat.divInt 1 2).den≤(Rat.divInt 1 2).num*(z-(z.floor:Rat)).den:=by
   unfold halfS at hs
   rcases Int.lt_or_le 0 ((z-(z.floor:Rat)).num*(Rat.divInt 1 2).den-(Rat.divInt 1 2).num*(z-(z.floor:Rat)).den) with h1|h1
   ·rw [Int.sign_eq_one_of_pos h1] at hs; omega
   ·omega
  have hle:=hh.2 hv
  rw [e2] at hle
  generalize (z.floor:Rat)=f at *
  have e1:((1:Int):Rat)=1:=rfl
  rw [e1] at f2
  constructor<;>grind
def absq (z:Rat):Rat:=if z.num<0 then -z else z
theorem absq_fr (z:Rat):Fr (absq z)=(false,(Fr z).2.1,(Fr z).2.2):=by
 unfold absq Fr
 split
 ·rename_i h
  rw [Rat.neg_num,Int.natAbs_neg,decide_eq_false (by omega)]; rfl
 ·rename_i h
  rw [decide_eq_false h]
theorem absq_sz {z:Rat} {k:Nat} (h:Sz k z):Sz k (absq z):=by
 unfold absq
 split
 ·exact neg_sz h
 ·exact h
theorem cmpR_nonpos {x y:Rat} (h:x≤y):cmpR x y≤0:=by
 rw [cmpR_sub]
 have h1:=(Rat.le_iff_sub_nonneg x y).1 h
 have h2:=Rat.num_nonneg.2 h1
 have e:x-y = -(y-x):=by grind
 rw [e,Rat.neg_num]
 rcases Int.lt_or_le 0 (-(y-x).num) with h3|h3
 ·omega
 ·rcases Int.lt_or_le (-(y-x).num) 0 with h4|h4
  ·rw [Int.sign_eq_neg_one_of_neg h4]; decide
  ·rw [show -(y-x).num=0 by omega]; decide
theorem T_two (p:Nat):(⟨#[50]⟩:ByteArray)++ZP.zer p=T (2*10^p):=by
 have hd:((⟨#[50]⟩:ByteArray)++ZP.zer p).data.toList=50 :: List.replicate p (48:UInt8):=by
  rw [ByteArray.data_append,Array.toList_append]; simp [ZP.zer]
 refine (can_T ?_).trans (congrArg T ?_)
 ·rw [hd]
  refine ⟨by simp,?_,fun e=>by simp at e⟩
  intro c hc
  rcases List.mem_cons.1 hc with rfl|hc
  ·decide
  ·rw [(List.mem_replicate.1 hc).2]; decide
 ·rw [hd,zbD,dval_zeros,List.length_replicate]; rfl
theorem fr_nat (k:Nat):Fr (((k:Int):Rat))=(false,T k,T 1):=by
 unfold Fr
 show (decide ((k:Int)<0),T (k:Int).natAbs,T 1)=_
 rw [decide_eq_false (by omega),Int.natAbs_natCast]
theorem half_step (x:Rat) (p:Nat) (s:Rat) (hs:s=x + -(((evenR (x*tenR (p:Int)):Int):Rat)*tenR (-(p:Int)))):absq s*(((2*10^p:Nat):Int):Rat)≤1:=by
 obtain ⟨h1,h2⟩:=even_half (x*tenR (p:Int))
 generalize ((evenR (x*tenR (p:Int)):Int):Rat)=m at *
 have ht:tenR (p:Int)=(((10^p:Nat):Int):Rat):=by rw [tenR_pos,int_div1]
 have hm:tenR (p:Int)*tenR (-(p:Int))=1:=by
  by_cases h0:p=0
  ·subst h0
   have e:tenR ((0:Nat):Int)=1:=by rw [tenR_pos]; exact Rat.divInt_self' (by decide)
   rw [show (-((0:Nat):Int))=((0:Nat):Int) from rfl,e,Rat.mul_one]
  ·rw [tenR_pos,tenR_neg p (by omega),Rat.divInt_mul_divInt,Int.mul_one,Int.one_mul,Rat.divInt_self' (by have:0<10^p:=Nat.pow_pos (by decide); omega)]
 have h2t:(((2*10^p:Nat):Int):Rat)=2*tenR (p:Int):=by rw [ht,Int.natCast_mul,Rat.intCast_mul]; rfl
 rw [h2t]
 generalize tenR (p:Int)=t at *
 generalize tenR (-(p:Int))=q at *
 unfold absq
 split
 ·subst hs
  have : -(x + -(m*q))*(2*t)=2*(m-x*t):=by grind
  rw [this]; exact h2
 ·subst hs
  have:(x + -(m*q))*(2*t)=2*(x*t-m):=by grind
  rw [this]; exact h1
theorem floor_small {x:Rat} (h:Sm x):Sm ((x.floor:Int):Rat):=by
 have hd:=x.den_pos
 refine ⟨?_,Nat.lt_of_lt_of_le (show 1<10^1 by decide) (Nat.pow_le_pow_right (by decide) (by decide))⟩
 show x.floor.natAbs<10^600
 refine Nat.lt_of_le_of_lt ?_ h.1
 rw [Rat.floor_def]
 exact Int.natAbs_ediv_le_natAbs _ _
theorem wrap_small (n:Int):0≤wrap64 ((IntKind.u64.wrap n).tmod 200)∧wrap64 ((IntKind.u64.wrap n).tmod 200)<200:=by
 have h0:0≤IntKind.u64.wrap n:=by
  show 0≤n%18446744073709551616
  omega
 have h1:=Int.tmod_nonneg 200 h0
 have h2:=Int.tmod_lt_of_pos (IntKind.u64.wrap n) (show (0:Int)<200 by decide)
 unfold wrap64
 omega
theorem RatBack_any (a0 a1:ByteArray) (n:Int) (W:World) (h0 : -9223372036854775808≤n) (h1:n≤9223372036854775807) :
  Calls Tryz.prog 13 #[.agg #[.string a0,.string a1],.int .i64 n] W fun e W'=>e = .returned (.bool true)∧Below W.heap.size W W':=by
 have HW:Ans 32 #[] (.bool true):=fun W=>awakeT_calls true W awake_f
 by_cases ha:∃ x,RR a0 a1 x
 ·obtain ⟨x,hx⟩:=ha
  obtain ⟨p,hp,hpl⟩:∃ p:Nat,wrap64 ((IntKind.u64.wrap n).tmod 200)=(p:Int)∧p<200:=⟨(wrap64 ((IntKind.u64.wrap n).tmod 200)).toNat,by have:=wrap_small n; omega,by have:=wrap_small n; omega⟩
  obtain ⟨y0,y1,ye,ey,hye⟩:=told_parts2 (((evenR (x*tenR (p:Int)):Int):Rat)*tenR (-(p:Int)))
  obtain ⟨d,de,ed,hde,hdd⟩:∃ d de,digR x (p:Int)=(d,de)∧(de=0∨de=7)∧(de=0→d=dgt (evenR (x*tenR (p:Int))) p∧(T (evenR (x*tenR (p:Int))).natAbs).size≤600):=by
   unfold digR
   rw [if_neg (by omega)]
   split
   ·exact ⟨_,_,rfl,Or.inr rfl,fun e=>by cases e⟩
   ·rename_i hl
    exact ⟨_,_,rfl,Or.inl rfl,fun _=>⟨by rw [Int.toNat_natCast],by omega⟩⟩
  have hfl:=floor_small ⟨hx.ln,hx.ld⟩
  have hft:toldR ((x.floor:Int):Rat)=(wtext x.floor,⟨#[49]⟩,0):=by rw [T_1]; exact told_of hfl
  have hfr:RR (wtext x.floor) ⟨#[49]⟩ ((x.floor:Int):Rat):=⟨rfl,T_1,hfl.1,hfl.2⟩
  obtain ⟨yy,hyy,hsy⟩:∃ yy:Rat,Sz 600 yy∧((de=0∧ye=0)→yy=((evenR (x*tenR (p:Int)):Int):Rat)*tenR (-(p:Int)))∧(¬ (de=0∧ye=0)→yy=x):=by
   by_cases hok:de=0∧ye=0
   ·have hy:ye=0:=hok.2
    subst hy
    exact ⟨_,rr_sz (told_read2 ey),fun _=>rfl,fun e=>absurd hok e⟩
   ·exact ⟨x,rr_sz hx,fun e=>absurd e hok,fun _=>rfl⟩
  have hsub:Sz 1201 (x + -yy):=(Plus_Fr (rr_sz hx) (neg_sz hyy) (by decide)).2
  have hhalf:absq (x + -yy)*(((2*10^p:Nat):Int):Rat)≤1:=by
   by_cases hok:de=0∧ye=0
   ·exact half_step x p _ (by rw [hsy.1 hok])
   ·rw [hsy.2 hok,Rat.add_neg_cancel]
    show absq 0*_≤1
    rw [show absq 0=0 from rfl,Rat.zero_mul]; decide
  have hsz2:Sz 1201 (((2*10^p:Nat):Int):Rat):=by
   refine ⟨?_,?_⟩
   ·show (T ((2*10^p:Nat):Int).natAbs).size≤1201
    rw [Int.natAbs_natCast,←T_two,ByteArray.size_append,zer_sz]
    show 1+p≤1201
    omega
   ·show (T 1).size≤1201
    rw [←T_1]; decide
  have e3:FrV (absq (x + -yy)) = .agg #[.bool false,.string (Fr (x + -yy)).2.1,.string (Fr (x + -yy)).2.2]:=by unfold FrV; rw [absq_fr]
  have e4:FrV (((2*10^p:Nat):Int):Rat) = .agg #[.bool false,.string ((⟨#[50]⟩:ByteArray)++ZP.zer p),.string ⟨#[49]⟩]:=by unfold FrV; rw [fr_nat,T_two,T_1]
  have hti:=times_ans (absq_sz hsub) hsz2 (by decide)
  rw [e3,e4] at hti
  have htsz:=(Times_Fr (absq_sz hsub) hsz2 (by decide)).2
  have hw1:Ans 66 #[.int .i64 1] (FrV 1):=fun W=>by
   have h:=whole_f 1 (by decide) (by decide)
   rw [Rat.divInt_self' (by decide)] at h
   exact c2_Whole.calls 1 _ _ _ W h
  have h1sz:Sz 2402 1:=⟨by show (T 1).size≤_; rw [←T_1]; decide,by show (T 1).size≤_; rw [←T_1]; decide⟩
  have hcmp:Ans 63 #[FrV (absq (x + -yy)*(((2*10^p:Nat):Int):Rat)),FrV 1] (.int .i64 (cmpR (absq (x + -yy)*(((2*10^p:Nat):Int):Rat)) 1)):=fun W=>c2_Compare.calls _ _ _ _ _ _ _ W (Compare_Fr htsz h1sz (by decide))
  have hprint:rat_Print.f a0 a1=some ((if a1.toList=([49]:List UInt8) then a0 else (a0++(⟨#[47]⟩:ByteArray))++a1),0):=by
   have hc:coreB (spl a0).1 (spl a0).2 a1=true:=(zcN a0 a1).2 ⟨x,hx⟩
   have hz:=rr_bytes hx
   have e4:(⟨#[47]⟩:ByteArray).size=1:=rfl
   have e5:(a0++(⟨#[47]⟩:ByteArray)).size=a0.size+1:=ByteArray.size_append
   unfold rat_Print.f
   rw [rat_right_f,hc,Option.bind_some,if_pos rfl]
   split
   ·rfl
   ·rw [if_pos (by omega),if_pos (by omega)]
  have hdig:rat_Digits.f a0 a1 (p:Int)=some (d,de):=by
   have hh:∃ x,RR a0 a1 x:=⟨x,hx⟩
   unfold rat_Digits.f
   rw [dif_pos hh,←rr_one hx hh.choose_spec,ed]
  have hround:rat_Round.f a0 a1 (p:Int)=some (y0,y1,ye):=by
   unfold rat_Round.f
   rw [oneF_yes hx,if_neg (by omega),tell_ok,ey]
  refine back_walk a0 a1 _ d y0 y1 (ZP.zer p) (wtext x.floor) _ _ _ _ _ _ _ _ _ _ _ _ _ _ _ _ _ _ n p de ye 0 0 _ _ h0 h1 hp ⟨by omega,by omega⟩ hde hye (by rw [zer_sz]; omega) (cmpR_nonpos hhalf) (cmpR_nonpos (Rat.floor_le x))
   (right_ans_yes hx) (fun W=>rat_Print.calls _ _ _ _ W hprint) (fun W=>rat_Parse.calls _ _ _ _ _ W (by unfold rat_Parse.f; rw [parse_print hx])) (fun W=>rat_Digits.calls _ _ _ _ _ W hdig) (fun W=>rat_Round.calls _ _ _ _ _ _ W hround)
   (fun e1 e2 W=>rat_Parse.calls _ _ _ _ _ W ?_) (read_ans hx) (fun e1 e2 => ?_) (minus_ans yy) (plus_ans (rr_sz hx) (neg_sz hyy) (by decide)) (fun W=>c2_Zeros.calls _ _ W (Zeros_n p (by omega))) hti hw1 hcmp
   (fun W=>rat_Floor.calls _ _ _ _ _ W (by unfold rat_Floor.f; rw [oneF_yes hx,tell_ok,hft])) (fun W=>rat_Cmp.calls _ _ _ _ _ _ W (rat_cmp_yes hfr hx)) HW W
  ·subst e2
   obtain ⟨g1,g2⟩:=hdd e1
   unfold rat_Parse.f
   rw [g1,parse_digits _ p (by omega) g2,ey]
  ·rw [hsy.1 ⟨e1,e2⟩]
   subst e2
   exact read_ans (told_read2 ey)
 ·exact back_out a0 a1 n (right_ans_no ha) HW W
end Go.Proofs.ZQ
end
