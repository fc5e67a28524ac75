/- Texts under the proof, joined by a program (prune.py): QRatSimple, QComp, Q214, Q218, Q219, Q215, QPure5, LawRatSimplest. -/
import Derived.Test.YtglaeambknhjlaaGreatDoorCRatSimplest20
import Derived.Test.YtglaeambknhjlaaGreatDoorCRatSimplest16
import Derived.Test.YtglaeambknhjlaaGreatDoorCRatSimplest13
import Derived.Test.YtglaeambknhjlaaGreatDoorCRatSimplest14
import Derived.Test.YtglaeambknhjlaaGreatDoorCRatSimplest11
import Derived.Test.YtglaeambknhjlaaGreatDoorCRatSimplest09
import Derived.Test.YtglaeambknhjlaaGreatDoorCRatSimplest19
set_option linter.unusedVariables false
set_option linter.unusedSimpArgs false
set_option exponentiation.threshold 20001
set_option maxHeartbeats 8000000
set_option maxRecDepth 100000
section
namespace Go.Proofs.ZQ
open Go.RowKit Go.Proofs.ZW.Wa Go.Proofs.ZP
theorem cs_lt {x y:Rat}:(x.num*y.den-y.num*x.den).sign<0↔x<y:=by rw [Rat.lt_iff,Int.sign_neg_iff]; omega
theorem cs_eq {x y:Rat}:(x.num*y.den-y.num*x.den).sign=0↔x=y:=by rw [Rat.eq_iff_mul_eq_mul,Int.sign_eq_zero_iff_zero]; omega
theorem cs_le {x y:Rat}:(x.num*y.den-y.num*x.den).sign≤0↔x≤y:=by
 have h1:=cs_lt (x:=x) (y:=y)
 have h2:=cs_eq (x:=x) (y:=y)
 rw [Rat.le_iff_lt_or_eq,←h1,←h2]; omega
theorem one_divInt:Rat.divInt 1 1=1:=by decide
theorem Bdr.subI {n:Nat} {x y:Rat} (h0:0<x) (hxy:x≤y) (h:((x.floor:Int):Rat)≠x) (k:¬ ((x.floor:Int):Rat)+1≤y) (hx:Bdr n x) (hy:Bdr n y) :
  Bdr n (y-((x.floor:Int):Rat))∧Bdr n (x-((x.floor:Int):Rat))∧Bdr n (y-((x.floor:Int):Rat))⁻¹∧Bdr n (x-((x.floor:Int):Rat))⁻¹:=by
 obtain ⟨h1,h2,h3,h4⟩:=Simp.step h0 hxy h k
 obtain ⟨a1,a2,b1,b2,p1,q1,p2,q2⟩:=Simp.parts h0 hxy h k
 obtain ⟨c1,c2⟩:=zbz y x.floor
 obtain ⟨d1,d2⟩:=zbz x x.floor
 have e1:Bdr n (y-((x.floor:Int):Rat)):=⟨by rw [c1]; exact hy.2.le (by omega),by rw [c2]; exact hy.2⟩
 have e2:Bdr n (x-((x.floor:Int):Rat)):=⟨by rw [d1]; exact hx.2.le (by omega),by rw [d2]; exact hx.2⟩
 exact ⟨e1,e2,e1.inv (fun e=>by rw [e] at h2; exact absurd h2 (by decide)),e2.inv (fun e=>by rw [e] at h1; exact absurd h1 (by decide))⟩
theorem Simp.bd {n:Nat} {x y s:Rat} (h:Simp x y s) (h0:0<x) (hxy:x≤y) (hx:Bdr n x):Bdr n s:=by
 obtain ⟨h1,h2⟩:=h.least h0 hxy x Rat.le_refl hxy
 obtain ⟨h3,h4⟩:=h.between h0 hxy
 have h5:0<s.num:=rpos.1 (by grind)
 have h6:0<x.num:=rpos.1 h0
 exact ⟨hx.1.le (by omega),hx.2.le (by omega)⟩
theorem simple_calls {x y s:Rat} (h:Simp x y s):∀ (gx gy:Nat) (w:World),RatAt w gx x→RatAt w gy y→0<x→x≤y→Bdr 2000 x→Bdr 2000 y →
  Calls Tryz.prog 140 #[.pointer (some ⟨gx,0,none⟩),.pointer (some ⟨gy,0,none⟩)] w fun e w'=>∃ D,e = .returned (.pointer (some ⟨D,0,none⟩))∧w.heap.size≤D∧RatAt w' D s∧Below w.heap.size w w':=by
 induction h with
 | whole x y h =>
  intro gx gy w hx hy h0 hxy hbx hby
  have hu112:=Tryz.underlying112
  have hbf:=zds hbx
  have hbfr:=Bdr.int hbf (by decide)
  have HC0:=Lib.hid (cs_eq (x:=((x.floor:Int):Rat)) (y:=x))
  have HN:=Lib.hid h
  go_enter Tryz.func140,Tryz.ntmps140
  clear h
  go_wp2_with fail
  refine (zcu gx x _ hx hbx (by decide)).mono ?_
  rintro e w1 ⟨D,rfl,hD,hq1,hb1⟩
  have hx1:=hx.below hb1
  have hy1:=hy.below hb1
  have hlq:=hq1.lt
  have hs1:=hb1.size
  have hbA:=zaa (Below.refl w1.heap.size w1) (.cells #[.bool false,.slice none 0 0,.bool false,.slice none 0 0] 112)
  have hr1:=RatAt.new w1 112 (by decide)
  have hqA:=hq1.below hbA
  have hxA:=hx1.below hbA
  have hyA:=hy1.below hbA
  have hBA:=bthen hb1 hbA
  have hlx:=hx1.lt
  have hly:=hy1.lt
  clear hq1 hx1 hy1 hb1 hbA hx hy
  go_wp2_with fail
  refine (zaE w1.heap.size D 0 x.floor _ hr1.slot hqA hbf (by decide)).mono ?_
  rintro e w2 ⟨rfl,hf2,hu2⟩
  have hx2:=hxA.upd hu2 (by omega)
  have hy2:=hyA.upd hu2 (by omega)
  have hB2:=hu2.new hBA hs1
  clear hqA hxA hyA hu2 hBA hr1
  generalize w1.heap.size=F at *
  go_wp2_with fail
  refine (za4 F gx _ _ _ hf2 hx2 hbfr hbx (by decide)).mono ?_
  rintro e w3 ⟨rfl,hb3⟩
  have hf3:=hf2.below hb3
  have hx3:=hx2.below hb3
  have hy3:=hy2.below hb3
  have hB3:=bthen hB2 hb3
  clear hf2 hx2 hy2 hB2 hb3
  have HF:=Lib.hid hf3
  have HX:=Lib.hid hx3
  have HY:=Lib.hid hy3
  have HB:=Lib.hid hB3
  clear hf3 hx3 hy3 hB3
  have hc:((((x.floor:Int):Rat)).num*x.den-x.num*(((x.floor:Int):Rat)).den).sign=0:=HC0.out.2 HN.out
  rw [hc]
  clear hc
  go_wp2
  go_ret
  exact ⟨_,rfl,by omega,HF.out,HB.out⟩
 | up x y h k =>
  intro gx gy w hx hy h0 hxy hbx hby
  have hu112:=Tryz.underlying112
  have hbf:=zds hbx
  have hbfr:=Bdr.int hbf (by decide)
  have HC0:=Lib.hid (cs_eq (x:=((x.floor:Int):Rat)) (y:=x))
  have HN:=Lib.hid h
  go_enter Tryz.func140,Tryz.ntmps140
  clear h
  go_wp2_with fail
  refine (zcu gx x _ hx hbx (by decide)).mono ?_
  rintro e w1 ⟨D,rfl,hD,hq1,hb1⟩
  have hx1:=hx.below hb1
  have hy1:=hy.below hb1
  have hlq:=hq1.lt
  have hs1:=hb1.size
  have hbA:=zaa (Below.refl w1.heap.size w1) (.cells #[.bool false,.slice none 0 0,.bool false,.slice none 0 0] 112)
  have hr1:=RatAt.new w1 112 (by decide)
  have hqA:=hq1.below hbA
  have hxA:=hx1.below hbA
  have hyA:=hy1.below hbA
  have hBA:=bthen hb1 hbA
  have hlx:=hx1.lt
  have hly:=hy1.lt
  clear hq1 hx1 hy1 hb1 hbA hx hy
  go_wp2_with fail
  refine (zaE w1.heap.size D 0 x.floor _ hr1.slot hqA hbf (by decide)).mono ?_
  rintro e w2 ⟨rfl,hf2,hu2⟩
  have hx2:=hxA.upd hu2 (by omega)
  have hy2:=hyA.upd hu2 (by omega)
  have hB2:=hu2.new hBA hs1
  clear hqA hxA hyA hu2 hBA hr1
  generalize w1.heap.size=F at *
  go_wp2_with fail
  refine (za4 F gx _ _ _ hf2 hx2 hbfr hbx (by decide)).mono ?_
  rintro e w3 ⟨rfl,hb3⟩
  have hf3:=hf2.below hb3
  have hx3:=hx2.below hb3
  have hy3:=hy2.below hb3
  have hB3:=bthen hB2 hb3
  clear hf2 hx2 hy2 hB2 hb3
  have HF:=Lib.hid hf3
  have HX:=Lib.hid hx3
  have HY:=Lib.hid hy3
  have HB:=Lib.hid hB3
  clear hf3 hx3 hy3 hB3
  have HK:=Lib.hid k
  clear k
  have hc:¬ ((((x.floor:Int):Rat)).num*x.den-x.num*(((x.floor:Int):Rat)).den).sign=0:=fun e=>HN.out (HC0.out.1 e)
  generalize ((((x.floor:Int):Rat)).num*x.den-x.num*(((x.floor:Int):Rat)).den).sign=c1 at hc ⊢
  have hbA:=zaa (Below.refl w3.heap.size w3) (.cells #[.bool false,.slice none 0 0,.bool false,.slice none 0 0] 112)
  have hrA:=RatAt.new w3 112 (by decide)
  have HFA:=Lib.hid (HF.out.below hbA)
  have HXA:=Lib.hid (HX.out.below hbA)
  have HYA:=Lib.hid (HY.out.below hbA)
  have HBA:=Lib.hid (bthen HB.out hbA)
  have hsz:F<w3.heap.size∧gx<w3.heap.size∧gy<w3.heap.size:=⟨HF.out.lt,HX.out.lt,HY.out.lt⟩
  have hsB:=HB.out.size
  obtain ⟨hz1,hz2,hz3⟩:=hsz
  clear hbA HF HX HY HB
  have hd1:(1:Int)≠0:=by decide
  go_wp2_with fail
  refine (zcE 1 1 _ (by decide) (by decide) (by decide) (by decide) (by decide)).mono ?_
  rintro e w4 ⟨N,rfl,hN,hn4,hb4⟩
  rw [one_divInt] at hn4
  have hr4:=hrA.slot.below hb4
  have HF4:=Lib.hid (HFA.out.below hb4)
  have HX4:=Lib.hid (HXA.out.below hb4)
  have HY4:=Lib.hid (HYA.out.below hb4)
  have HB4:=Lib.hid (bthen HBA.out hb4)
  clear hb4 HFA HXA HYA HBA hrA hd1
  have HU:=Lib.hid (hbfr.add (show Bdr 1 1 from ⟨by unfold Bd; decide,by unfold Bd; decide⟩))
  go_wp2_with fail
  refine (zcK w3.heap.size F N _ _ _ hr4 HF4.out hn4 hbfr (show Bdr 1 1 from ⟨by unfold Bd; decide,by unfold Bd; decide⟩) (by decide)).mono ?_
  rintro e w5 ⟨rfl,hp5,hu5⟩
  have HF5:=Lib.hid (HF4.out.upd hu5 (by omega))
  have HX5:=Lib.hid (HX4.out.upd hu5 (by omega))
  have HY5:=Lib.hid (HY4.out.upd hu5 (by omega))
  have HB5:=Lib.hid (hu5.new HB4.out (by omega))
  clear hr4 hn4 HF4 HX4 HY4 HB4 hu5
  generalize w3.heap.size=G at *
  go_wp2_with fail
  refine (za4 G gy _ _ _ hp5 HY5.out HU.out hby (by decide)).mono ?_
  rintro e w6 ⟨rfl,hb6⟩
  have HF6:=Lib.hid (HF5.out.below hb6)
  have HX6:=Lib.hid (HX5.out.below hb6)
  have HY6:=Lib.hid (HY5.out.below hb6)
  have HP6:=Lib.hid (hp5.below hb6)
  have HB6:=Lib.hid (bthen HB5.out hb6)
  clear hb6 HF5 HX5 HY5 HB5 hp5
  have HC2:=Lib.hid (cs_le (x:=((x.floor:Int):Rat)+1) (y:=y))
  have hc2:=HC2.out.2 HK.out
  generalize ((((x.floor:Int):Rat)+1).num*y.den-y.num*(((x.floor:Int):Rat)+1).den).sign=c2 at hc2 ⊢
  go_wp2
  go_ret
  exact ⟨_,rfl,by omega,HP6.out,HB6.out⟩
 | inner x y s h k r ih =>
  intro gx gy w hx hy h0 hxy hbx hby
  have hu112:=Tryz.underlying112
  have hbf:=zds hbx
  have hbfr:=Bdr.int hbf (by decide)
  have HC0:=Lib.hid (cs_eq (x:=((x.floor:Int):Rat)) (y:=x))
  have HN:=Lib.hid h
  go_enter Tryz.func140,Tryz.ntmps140
  clear h
  go_wp2_with fail
  refine (zcu gx x _ hx hbx (by decide)).mono ?_
  rintro e w1 ⟨D,rfl,hD,hq1,hb1⟩
  have hx1:=hx.below hb1
  have hy1:=hy.below hb1
  have hlq:=hq1.lt
  have hs1:=hb1.size
  have hbA:=zaa (Below.refl w1.heap.size w1) (.cells #[.bool false,.slice none 0 0,.bool false,.slice none 0 0] 112)
  have hr1:=RatAt.new w1 112 (by decide)
  have hqA:=hq1.below hbA
  have hxA:=hx1.below hbA
  have hyA:=hy1.below hbA
  have hBA:=bthen hb1 hbA
  have hlx:=hx1.lt
  have hly:=hy1.lt
  clear hq1 hx1 hy1 hb1 hbA hx hy
  go_wp2_with fail
  refine (zaE w1.heap.size D 0 x.floor _ hr1.slot hqA hbf (by decide)).mono ?_
  rintro e w2 ⟨rfl,hf2,hu2⟩
  have hx2:=hxA.upd hu2 (by omega)
  have hy2:=hyA.upd hu2 (by omega)
  have hB2:=hu2.new hBA hs1
  clear hqA hxA hyA hu2 hBA hr1
  generalize w1.heap.size=F at *
  go_wp2_with fail
  refine (za4 F gx _ _ _ hf2 hx2 hbfr hbx (by decide)).mono ?_
  rintro e w3 ⟨rfl,hb3⟩
  have hf3:=hf2.below hb3
  have hx3:=hx2.below hb3
  have hy3:=hy2.below hb3
  have hB3:=bthen hB2 hb3
  clear hf2 hx2 hy2 hB2 hb3
  have HF:=Lib.hid hf3
  have HX:=Lib.hid hx3
  have HY:=Lib.hid hy3
  have HB:=Lib.hid hB3
  clear hf3 hx3 hy3 hB3
  have HK:=Lib.hid k
  clear k
  have HIH:=Lib.hid ih
  clear ih
  have hc:¬ ((((x.floor:Int):Rat)).num*x.den-x.num*(((x.floor:Int):Rat)).den).sign=0:=fun e=>HN.out (HC0.out.1 e)
  generalize ((((x.floor:Int):Rat)).num*x.den-x.num*(((x.floor:Int):Rat)).den).sign=c1 at hc ⊢
  have hbA:=zaa (Below.refl w3.heap.size w3) (.cells #[.bool false,.slice none 0 0,.bool false,.slice none 0 0] 112)
  have hrA:=RatAt.new w3 112 (by decide)
  have HFA:=Lib.hid (HF.out.below hbA)
  have HXA:=Lib.hid (HX.out.below hbA)
  have HYA:=Lib.hid (HY.out.below hbA)
  have HBA:=Lib.hid (bthen HB.out hbA)
  have hsz:F<w3.heap.size∧gx<w3.heap.size∧gy<w3.heap.size:=⟨HF.out.lt,HX.out.lt,HY.out.lt⟩
  have hsB:=HB.out.size
  obtain ⟨hz1,hz2,hz3⟩:=hsz
  clear hbA HF HX HY HB
  have hd1:(1:Int)≠0:=by decide
  go_wp2_with fail
  refine (zcE 1 1 _ (by decide) (by decide) (by decide) (by decide) (by decide)).mono ?_
  rintro e w4 ⟨N,rfl,hN,hn4,hb4⟩
  rw [one_divInt] at hn4
  have hr4:=hrA.slot.below hb4
  have HF4:=Lib.hid (HFA.out.below hb4)
  have HX4:=Lib.hid (HXA.out.below hb4)
  have HY4:=Lib.hid (HYA.out.below hb4)
  have HB4:=Lib.hid (bthen HBA.out hb4)
  clear hb4 HFA HXA HYA HBA hrA hd1
  have HU:=Lib.hid (hbfr.add (show Bdr 1 1 from ⟨by unfold Bd; decide,by unfold Bd; decide⟩))
  go_wp2_with fail
  refine (zcK w3.heap.size F N _ _ _ hr4 HF4.out hn4 hbfr (show Bdr 1 1 from ⟨by unfold Bd; decide,by unfold Bd; decide⟩) (by decide)).mono ?_
  rintro e w5 ⟨rfl,hp5,hu5⟩
  have HF5:=Lib.hid (HF4.out.upd hu5 (by omega))
  have HX5:=Lib.hid (HX4.out.upd hu5 (by omega))
  have HY5:=Lib.hid (HY4.out.upd hu5 (by omega))
  have HB5:=Lib.hid (hu5.new HB4.out (by omega))
  clear hr4 hn4 HF4 HX4 HY4 HB4 hu5
  generalize w3.heap.size=G at *
  go_wp2_with fail
  refine (za4 G gy _ _ _ hp5 HY5.out HU.out hby (by decide)).mono ?_
  rintro e w6 ⟨rfl,hb6⟩
  have HF6:=Lib.hid (HF5.out.below hb6)
  have HX6:=Lib.hid (HX5.out.below hb6)
  have HY6:=Lib.hid (HY5.out.below hb6)
  have HP6:=Lib.hid (hp5.below hb6)
  have HB6:=Lib.hid (bthen HB5.out hb6)
  clear hb6 HF5 HX5 HY5 HB5 hp5
  have HC2:=Lib.hid (cs_le (x:=((x.floor:Int):Rat)+1) (y:=y))
  have hc2:¬ ((((x.floor:Int):Rat)+1).num*y.den-y.num*(((x.floor:Int):Rat)+1).den).sign≤0:=fun e=>HK.out (HC2.out.1 e)
  obtain ⟨s1,s2,s3,s4⟩:=Simp.step h0 hxy HN.out HK.out
  obtain ⟨b1,b2,b3,b4⟩:=Bdr.subI h0 hxy HN.out HK.out hbx hby
  have hbs:=Simp.bd r s3 s4 b3
  have hs0:s≠0:=by
   have:=(Simp.between r s3 s4).1
   intro e
   rw [e] at this
   grind
  have hn1:y-((x.floor:Int):Rat)≠0:=fun e=>by rw [e] at s2; exact absurd s2 (by decide)
  have hn2:x-((x.floor:Int):Rat)≠0:=fun e=>by rw [e] at s1; exact absurd s1 (by decide)
  have HS0:=Lib.hid (And.intro hs0 (And.intro hn1 hn2))
  generalize ((((x.floor:Int):Rat)+1).num*y.den-y.num*(((x.floor:Int):Rat)+1).den).sign=c2 at hc2 ⊢
  clear HC2 HP6 hs0 hn1 hn2 HC0 HU
  have hsB6:=HB6.out.size
  have hA1:=bthen (zaa (Below.refl w6.heap.size w6) (.cells #[.bool false,.slice none 0 0,.bool false,.slice none 0 0] 112)) (zaa (Below.refl _ _) (.cells #[.bool false,.slice none 0 0,.bool false,.slice none 0 0] 112))
  have hA2:RatAt ((w6.alloc (.cells #[.bool false,.slice none 0 0,.bool false,.slice none 0 0] 112)).alloc (.cells #[.bool false,.slice none 0 0,.bool false,.slice none 0 0] 112)) (w6.heap.size+1) 0:=by
   have h:=RatAt.new (w6.alloc (.cells #[.bool false,.slice none 0 0,.bool false,.slice none 0 0] 112)) 112 (by decide)
   rwa [World.size_alloc] at h
  have hA3:=(RatAt.new w6 112 (by decide)).slot.below (zaa (Below.refl (w6.alloc (.cells #[.bool false,.slice none 0 0,.bool false,.slice none 0 0] 112)).heap.size (w6.alloc (.cells #[.bool false,.slice none 0 0,.bool false,.slice none 0 0] 112))) (.cells #[.bool false,.slice none 0 0,.bool false,.slice none 0 0] 112))
  have HF7:=Lib.hid (HF6.out.below hA1)
  have HX7:=Lib.hid (HX6.out.below hA1)
  have HY7:=Lib.hid (HY6.out.below hA1)
  have HB7:=Lib.hid (bthen HB6.out hA1)
  have hz4:F<w6.heap.size∧gx<w6.heap.size∧gy<w6.heap.size:=⟨HF6.out.lt,HX6.out.lt,HY6.out.lt⟩
  obtain ⟨hz4,hz5,hz6⟩:=hz4
  clear hA1 HF6 HX6 HY6 HB6
  go_wp2_with fail
  refine (rsub_calls (w6.heap.size+1) gy F _ _ _ hA2.slot HY7.out HF7.out hby hbfr (by decide)).mono ?_
  rintro e w7 ⟨rfl,hp7,hu7⟩
  have hA8:=hA3.upd hu7
  have HF8:=Lib.hid (HF7.out.upd hu7 (by omega))
  have HX8:=Lib.hid (HX7.out.upd hu7 (by omega))
  have HB8:=Lib.hid (hu7.new HB7.out (by omega))
  clear hu7 HF7 HX7 HY7 HB7 hA2 hA3
  go_wp2_with fail
  refine (zdm w6.heap.size (w6.heap.size+1) _ _ hA8 hp7 HS0.out.2.1 b1 (by decide)).mono ?_
  rintro e w8 ⟨rfl,hp8,hu8⟩
  have HF9:=Lib.hid (HF8.out.upd hu8 (by omega))
  have HX9:=Lib.hid (HX8.out.upd hu8 (by omega))
  have HB9:=Lib.hid (hu8.new HB8.out (by omega))
  clear hu8 HF8 HX8 HB8 hA8 hp7
  generalize w6.heap.size=GA at *
  have hsB9:=HB9.out.size
  have hA1:=bthen (zaa (Below.refl w8.heap.size w8) (.cells #[.bool false,.slice none 0 0,.bool false,.slice none 0 0] 112)) (zaa (Below.refl _ _) (.cells #[.bool false,.slice none 0 0,.bool false,.slice none 0 0] 112))
  have hA2:RatAt ((w8.alloc (.cells #[.bool false,.slice none 0 0,.bool false,.slice none 0 0] 112)).alloc (.cells #[.bool false,.slice none 0 0,.bool false,.slice none 0 0] 112)) (w8.heap.size+1) 0:=by
   have h:=RatAt.new (w8.alloc (.cells #[.bool false,.slice none 0 0,.bool false,.slice none 0 0] 112)) 112 (by decide)
   rwa [World.size_alloc] at h
  have hA3:=(RatAt.new w8 112 (by decide)).slot.below (zaa (Below.refl (w8.alloc (.cells #[.bool false,.slice none 0 0,.bool false,.slice none 0 0] 112)).heap.size (w8.alloc (.cells #[.bool false,.slice none 0 0,.bool false,.slice none 0 0] 112))) (.cells #[.bool false,.slice none 0 0,.bool false,.slice none 0 0] 112))
  have HF10:=Lib.hid (HF9.out.below hA1)
  have HX10:=Lib.hid (HX9.out.below hA1)
  have HP10:=Lib.hid (hp8.below hA1)
  have HB10:=Lib.hid (bthen HB9.out hA1)
  have hz7:F<w8.heap.size∧gx<w8.heap.size∧GA<w8.heap.size:=⟨HF9.out.lt,HX9.out.lt,hp8.lt⟩
  obtain ⟨hz7,hz8,hz9⟩:=hz7
  clear hA1 HF9 HX9 HB9 hp8
  go_wp2_with fail
  refine (rsub_calls (w8.heap.size+1) gx F _ _ _ hA2.slot HX10.out HF10.out hbx hbfr (by decide)).mono ?_
  rintro e w9 ⟨rfl,hp9,hu9⟩
  have hA11:=hA3.upd hu9
  have HF11:=Lib.hid (HF10.out.upd hu9 (by omega))
  have HP11:=Lib.hid (HP10.out.upd hu9 (by omega))
  have HB11:=Lib.hid (hu9.new HB10.out (by omega))
  clear hu9 HF10 HX10 HP10 HB10 hA2 hA3
  go_wp2_with fail
  refine (zdm w8.heap.size (w8.heap.size+1) _ _ hA11 hp9 HS0.out.2.2 b2 (by decide)).mono ?_
  rintro e w10 ⟨rfl,hq12,hu12⟩
  have HF12:=Lib.hid (HF11.out.upd hu12 (by omega))
  have HP12:=Lib.hid (HP11.out.upd hu12 (by omega))
  have HB12:=Lib.hid (hu12.new HB11.out (by omega))
  clear hu12 HF11 HP11 HB11 hA11 hp9
  generalize w8.heap.size=GB at *
  have hsB12:=HB12.out.size
  have hA1:=zaa (Below.refl w10.heap.size w10) (.cells #[.bool false,.slice none 0 0,.bool false,.slice none 0 0] 112)
  have hA2:=RatAt.new w10 112 (by decide)
  have HF13:=Lib.hid (HF12.out.below hA1)
  have HP13:=Lib.hid (HP12.out.below hA1)
  have HQ13:=Lib.hid (hq12.below hA1)
  have HB13:=Lib.hid (bthen HB12.out hA1)
  have hz10:=HF12.out.lt
  clear hA1 HF12 HP12 HB12 hq12
  go_wp2_with fail
  refine (HIH.out GA GB _ HP13.out HQ13.out s3 s4 b3 b4).mono ?_
  rintro e w11 ⟨S,rfl,hS,hr14,hb14⟩
  have hA14:=hA2.slot.below hb14
  have HF14:=Lib.hid (HF13.out.below hb14)
  have HB14:=Lib.hid (bthen HB13.out hb14)
  clear hA2 HF13 HP13 HQ13 HB13 hb14 HIH
  go_wp2_with fail
  refine (zdm w10.heap.size S _ _ hA14 hr14 HS0.out.1 hbs (by decide)).mono ?_
  rintro e w12 ⟨rfl,hr15,hu15⟩
  have HF15:=Lib.hid (HF14.out.upd hu15 (by omega))
  have HB15:=Lib.hid (hu15.new HB14.out (by omega))
  clear hA14 HF14 HB14 hu15 hr14
  go_wp2_with fail
  refine (zcK F F w10.heap.size _ _ _ HF15.out.slot HF15.out hr15 hbfr (hbs.inv HS0.out.1) (by decide)).mono ?_
  rintro e w13 ⟨rfl,hr16,hu16⟩
  have HB16:=Lib.hid (hu16.new HB15.out (by omega))
  have HR16:=Lib.hid hr16
  clear hr15 hr16 hu16 HF15 HB15
  go_wp2
  go_ret
  exact ⟨_,rfl,by omega,HR16.out,HB16.out⟩
noncomputable def simp1 (x y:Rat):Rat:=by
 classical exact if h:0<x∧x≤y then (Simp.exists _ x y (Nat.le_refl _) h.1 h.2).choose else 0
theorem zaN {x y:Rat} (h0:0<x) (hxy:x≤y):Simp x y (simp1 x y):=by
 unfold simp1
 rw [dif_pos ⟨h0,hxy⟩]
 exact (Simp.exists _ x y (Nat.le_refl _) h0 hxy).choose_spec
noncomputable def simR (x y:Rat):Rat:=if x≤0∧0≤y then 0 else if 0<x then simp1 x y else -simp1 (-y) (-x)
theorem simR_bd {x y:Rat} (hxy:x≤y) (hx:Bdr 2000 x) (hy:Bdr 2000 y):Bdr 2000 (simR x y):=by
 unfold simR
 split
 ·exact ⟨by unfold Bd; exact Nat.pow_pos (by decide),by unfold Bd; exact Nat.one_lt_two_pow (by decide)⟩
 ·split
  ·rename_i h0
   exact Simp.bd (zaN h0 hxy) h0 hxy hx
  ·rename_i h h0
   have h2:0 < -y:=by grind
   have h3 : -y ≤ -x:=by grind
   exact (Simp.bd (zaN h2 h3) h2 h3 hy.neg).neg
theorem sg_le {x:Rat}:x.num.sign≤0↔x≤0:=by
 rw [Rat.le_iff]; simp
theorem sg_ge {x:Rat}:0≤x.num.sign↔0≤x:=by
 rw [Rat.le_iff]; simp
theorem Simple_below (w:World) (x y r:Rat) (hsx:Bdr 2000 x) (hsy:Bdr 2000 y) (hxy:y<x):TwoDo 138 #[] w x y 9 r:=by
 intro W z gx gy hb h1 h2 h3 n1 n2 hz hx hy
 change Calls Tryz.prog 138 #[.pointer (some ⟨z,0,none⟩),.pointer (some ⟨gx,0,none⟩),.pointer (some ⟨gy,0,none⟩)] W _
 have HC:=Lib.hid (cs_lt (x:=y) (y:=x))
 have hzl:=hz.lt
 have hxl:=hx.lt
 have hyl:=hy.lt
 go_enter Tryz.func138,Tryz.ntmps138
 go_wp2_with fail
 refine (za4 gy gx y x W hy hx hsy hsx (by decide)).mono ?_
 rintro e w1 ⟨rfl,hb1⟩
 have HZ:=Lib.hid (hz.below hb1)
 have HX:=Lib.hid (hx.below hb1)
 have HY:=Lib.hid (hy.below hb1)
 clear hz hx hy
 have hc:=HC.out.2 hxy
 generalize (y.num*x.den-x.num*y.den).sign=c at hc ⊢
 have HK:=Lib.hid (KeepB.of_below hb1 z)
 clear hb1 HC hxy
 go_wp2
 go_ret
 exact ⟨rfl,fun e=>absurd e (by decide),HK.out⟩
theorem Simple_none (w:World) (x y:Rat) (hsx:Bdr 2000 x) (hsy:Bdr 2000 y) (hxy:x≤y) (k1:x≤0) (k2:0≤y):TwoDo 138 #[] w x y 0 0:=by
 intro W z gx gy hb h1 h2 h3 n1 n2 hz hx hy
 change Calls Tryz.prog 138 #[.pointer (some ⟨z,0,none⟩),.pointer (some ⟨gx,0,none⟩),.pointer (some ⟨gy,0,none⟩)] W _
 have HC:=Lib.hid (cs_lt (x:=y) (y:=x))
 have hzl:=hz.lt
 have hxl:=hx.lt
 have hyl:=hy.lt
 go_enter Tryz.func138,Tryz.ntmps138
 go_wp2_with fail
 refine (za4 gy gx y x W hy hx hsy hsx (by decide)).mono ?_
 rintro e w1 ⟨rfl,hb1⟩
 have HZ:=Lib.hid (hz.below hb1)
 have HX:=Lib.hid (hx.below hb1)
 have HY:=Lib.hid (hy.below hb1)
 clear hz hx hy
 have hc:¬ (y.num*x.den-x.num*y.den).sign<0:=fun e=>absurd (HC.out.1 e) (Rat.not_lt.2 hxy)
 generalize (y.num*x.den-x.num*y.den).sign=c at hc ⊢
 have HB1:=Lib.hid hb1
 clear hb1 HC
 have HSX:=Lib.hid (sg_le (x:=x))
 have HSY:=Lib.hid (sg_ge (x:=y))
 go_wp2_with fail
 refine (zbk gx x _ HX.out).mono ?_
 rintro e w2 ⟨rfl,rfl⟩
 have hd:=HSX.out.2 k1
 generalize x.num.sign=d at hd ⊢
 go_wp2_with fail
 refine (zbk gy y _ HY.out).mono ?_
 rintro e w3 ⟨rfl,rfl⟩
 have hd2:=HSY.out.2 k2
 generalize y.num.sign=d2 at hd2 ⊢
 have HK:=Lib.hid (KeepB.of_below HB1.out z)
 clear HB1 HSX HSY hxy k1 k2
 go_wp2
 go_ret
 exact ⟨rfl,fun _=>HZ.out,HK.out⟩
theorem Simple_pos (w:World) (x y:Rat) (hsx:Bdr 2000 x) (hsy:Bdr 2000 y) (hxy:x≤y) (k1:0<x):TwoDo 138 #[] w x y 0 (simp1 x y):=by
 intro W z gx gy hb h1 h2 h3 n1 n2 hz hx hy
 change Calls Tryz.prog 138 #[.pointer (some ⟨z,0,none⟩),.pointer (some ⟨gx,0,none⟩),.pointer (some ⟨gy,0,none⟩)] W _
 have HC:=Lib.hid (cs_lt (x:=y) (y:=x))
 have hzl:=hz.lt
 have hxl:=hx.lt
 have hyl:=hy.lt
 go_enter Tryz.func138,Tryz.ntmps138
 go_wp2_with fail
 refine (za4 gy gx y x W hy hx hsy hsx (by decide)).mono ?_
 rintro e w1 ⟨rfl,hb1⟩
 have HZ:=Lib.hid (hz.below hb1)
 have HX:=Lib.hid (hx.below hb1)
 have HY:=Lib.hid (hy.below hb1)
 clear hz hx hy
 have hc:¬ (y.num*x.den-x.num*y.den).sign<0:=fun e=>absurd (HC.out.1 e) (Rat.not_lt.2 hxy)
 generalize (y.num*x.den-x.num*y.den).sign=c at hc ⊢
 have HB1:=Lib.hid hb1
 clear hb1 HC
 have HSX:=Lib.hid (sg_le (x:=x))
 have HSY:=Lib.hid (sg_ge (x:=y))
 go_wp2_with fail
 refine (zbk gx x _ HX.out).mono ?_
 rintro e w2 ⟨rfl,rfl⟩
 have hd:¬ x.num.sign≤0:=fun e=>absurd (HSX.out.1 e) (Rat.not_le.2 k1)
 generalize x.num.sign=d at hd ⊢
 go_wp2_with fail
 refine (zbk gx x _ HX.out).mono ?_
 rintro e w3 ⟨rfl,rfl⟩
 have hd2:x.num.sign>0:=Int.not_le.1 (fun e=>absurd (HSX.out.1 e) (Rat.not_le.2 k1))
 generalize x.num.sign=d2 at hd2 ⊢
 clear HSX HSY
 go_wp2_with fail
 refine (simple_calls (zaN k1 hxy) gx gy _ HX.out HY.out k1 hxy hsx hsy).mono ?_
 rintro e w4 ⟨S,rfl,hS,hr4,hb4⟩
 have hz4:=HZ.out.below hb4
 have HB4:=Lib.hid (bthen HB1.out hb4)
 clear hb4
 go_wp2_with fail
 refine (rset_calls z S _ _ hz4.slot hr4 (Simp.bd (zaN k1 hxy) k1 hxy hsx) (by decide)).mono ?_
 rintro e w5 ⟨rfl,hr5,hu5⟩
 have HR:=Lib.hid hr5
 have HU:=Lib.hid (hu5.lift HB4.out)
 clear hr5 hu5 hr4 hz4 HB4 hd hd2 hc
 go_wp2
 go_ret
 exact ⟨rfl,fun _=>HR.out,HU.out.keepB⟩
theorem Simple_neg (w:World) (x y:Rat) (hsx:Bdr 2000 x) (hsy:Bdr 2000 y) (hxy:x≤y) (k1:x≤0) (k2:y<0):TwoDo 138 #[] w x y 0 (-simp1 (-y) (-x)):=by
 intro W z gx gy hb h1 h2 h3 n1 n2 hz hx hy
 change Calls Tryz.prog 138 #[.pointer (some ⟨z,0,none⟩),.pointer (some ⟨gx,0,none⟩),.pointer (some ⟨gy,0,none⟩)] W _
 have HC:=Lib.hid (cs_lt (x:=y) (y:=x))
 have hzl:=hz.lt
 have hxl:=hx.lt
 have hyl:=hy.lt
 go_enter Tryz.func138,Tryz.ntmps138
 go_wp2_with fail
 refine (za4 gy gx y x W hy hx hsy hsx (by decide)).mono ?_
 rintro e w1 ⟨rfl,hb1⟩
 have HZ:=Lib.hid (hz.below hb1)
 have HX:=Lib.hid (hx.below hb1)
 have HY:=Lib.hid (hy.below hb1)
 clear hz hx hy
 have hc:¬ (y.num*x.den-x.num*y.den).sign<0:=fun e=>absurd (HC.out.1 e) (Rat.not_lt.2 hxy)
 generalize (y.num*x.den-x.num*y.den).sign=c at hc ⊢
 have HB1:=Lib.hid hb1
 clear hb1 HC
 have HSX:=Lib.hid (sg_le (x:=x))
 have HSY:=Lib.hid (sg_ge (x:=y))
 go_wp2_with fail
 refine (zbk gx x _ HX.out).mono ?_
 rintro e w2 ⟨rfl,rfl⟩
 have hd:=HSX.out.2 k1
 have hd3:¬ x.num.sign>0:=by omega
 have HD3:=Lib.hid hd3
 clear hd3
 generalize hxs:x.num.sign=d at hd ⊢
 have HXS:=Lib.hid hxs
 clear hxs
 go_wp2_with fail
 refine (zbk gy y _ HY.out).mono ?_
 rintro e w3 ⟨rfl,rfl⟩
 have hd2:¬ y.num.sign≥0:=fun e=>absurd (HSY.out.1 e) (Rat.not_le.2 k2)
 generalize y.num.sign=d2 at hd2 ⊢
 clear HSX HSY
 go_wp2_with fail
 refine (zbk gx x _ HX.out).mono ?_
 rintro e w4 ⟨rfl,rfl⟩
 have hd4:=HD3.out
 generalize x.num.sign=d4 at hd4 ⊢
 clear HD3 HXS
 have k3:0 < -y:=by grind
 have k4 : -y ≤ -x:=by grind
 have hA1:=zaa (Below.refl w1.heap.size w1) (.cells #[.bool false,.slice none 0 0,.bool false,.slice none 0 0] 112)
 have hA2:=RatAt.new w1 112 (by decide)
 have HY2:=Lib.hid (HY.out.below hA1)
 have HX2:=Lib.hid (HX.out.below hA1)
 have HZ2:=Lib.hid (HZ.out.below hA1)
 have HB2:=Lib.hid (bthen HB1.out hA1)
 have hs1:=HB1.out.size
 clear hA1 HX HY HZ HB1
 go_wp2_with fail
 refine (zbZ w1.heap.size gy y _ hA2.slot HY2.out hsy (by decide)).mono ?_
 rintro e w5 ⟨rfl,hp5,hu5⟩
 have HX5:=Lib.hid (HX2.out.upd hu5 (by omega))
 have HZ5:=Lib.hid (HZ2.out.upd hu5 (by omega))
 have HB5:=Lib.hid (hu5.new HB2.out hs1)
 clear hA2 hu5 HX2 HY2 HZ2 HB2
 generalize w1.heap.size=G at *
 have hA1:=zaa (Below.refl w5.heap.size w5) (.cells #[.bool false,.slice none 0 0,.bool false,.slice none 0 0] 112)
 have hA2:=RatAt.new w5 112 (by decide)
 have HX6:=Lib.hid (HX5.out.below hA1)
 have HZ6:=Lib.hid (HZ5.out.below hA1)
 have HP6:=Lib.hid (hp5.below hA1)
 have HB6:=Lib.hid (bthen HB5.out hA1)
 have hs5:=HB5.out.size
 have hlp:=hp5.lt
 have hlz:=HZ5.out.lt
 clear hA1 HX5 HZ5 HB5 hp5
 go_wp2_with fail
 refine (zbZ w5.heap.size gx x _ hA2.slot HX6.out hsx (by decide)).mono ?_
 rintro e w6 ⟨rfl,hq7,hu7⟩
 have HZ7:=Lib.hid (HZ6.out.upd hu7 (by omega))
 have HP7:=Lib.hid (HP6.out.upd hu7 (by omega))
 have HB7:=Lib.hid (hu7.new HB6.out (by omega))
 clear hA2 hu7 HX6 HZ6 HP6 HB6
 generalize w5.heap.size=H at *
 go_wp2_with fail
 refine (simple_calls (zaN k3 k4) G H _ HP7.out hq7 k3 k4 hsy.neg hsx.neg).mono ?_
 rintro e w8 ⟨S,rfl,hS,hr8,hb8⟩
 have hz8:=HZ7.out.below hb8
 have HB8:=Lib.hid (bthen HB7.out hb8)
 clear hb8 HZ7 HP7 HB7 hq7
 go_wp2_with fail
 refine (zbZ z S _ _ hz8.slot hr8 (Simp.bd (zaN k3 k4) k3 k4 hsy.neg) (by decide)).mono ?_
 rintro e w9 ⟨rfl,hr9,hu9⟩
 have HR:=Lib.hid hr9
 have HU:=Lib.hid (hu9.lift HB8.out)
 clear hr8 hr9 hu9 hz8 HB8
 go_wp2
 go_ret
 exact ⟨rfl,fun _=>HR.out,HU.out.keepB⟩
theorem Simple_do (w:World) (x y:Rat) (hsx:Bdr 2000 x) (hsy:Bdr 2000 y):TwoDo 138 #[] w x y (if y<x then 9 else 0) (simR x y):=by
 by_cases h:y<x
 ·rw [if_pos h]; exact Simple_below w x y _ hsx hsy h
 have hxy:x≤y:=Rat.not_lt.1 h
 rw [if_neg h]
 unfold simR
 by_cases k:x≤0∧0≤y
 ·rw [if_pos k]; exact Simple_none w x y hsx hsy hxy k.1 k.2
 rw [if_neg k]
 by_cases k1:0<x
 ·rw [if_pos k1]; exact Simple_pos w x y hsx hsy hxy k1
 ·rw [if_neg k1]
  have k2:x≤0:=Rat.not_lt.1 k1
  exact Simple_neg w x y hsx hsy hxy k2 (Rat.not_le.1 fun e=>k ⟨k2,e⟩)
theorem Simple_wrap (a0 a1 b0 b1:ByteArray) (w:World) (tt:ByteArray×ByteArray×Int) (hd:∀ W:World,Below w.heap.size w W→Says 121 #[.agg #[.string a0,.string a1],.agg #[.string b0,.string b1],.func (.func 138) #[] #[]] W tt):Says 57 #[.agg #[.string a0,.string a1],.agg #[.string b0,.string b1]] w tt:=by
 have HD:=Lib.hid hd
 clear hd
 unfold Says
 go_enter Tryz.func57,Tryz.ntmps57
 obtain ⟨hbk,hba⟩:=start2 w a0 a1 b0 b1
 go_wp2_with fail
 generalize (((w.alloc (.cells #[.string a0,.string a1] 23)).alloc (.cells #[.string b0,.string b1] 23)).alloc (.cells #[.string ⟨#[]⟩,.string ⟨#[]⟩] 23))=W0 at *
 generalize hBe:w.heap.size+1+1=B0 at *
 have HBE:=Lib.hid (show w.heap.size≤B0 by omega)
 clear hBe
 refine (HD.out _ hba).mono ?_
 rintro e w1 ⟨rfl,hb1⟩
 have hbk5:=(hb1.block _ (zar hbk)).trans hbk
 have hB5:=bthen hba hb1
 have cB0:=(zaf hbk5 0).trans (show _=some (Value.string ⟨#[]⟩) from rfl)
 have cB1:=(zaf hbk5 1).trans (show _=some (Value.string ⟨#[]⟩) from rfl)
 have fB0:=zae hbk5 0
 have fB1:=zae hbk5 1
 have hs1:=zat hbk5 0 (.string tt.1)
 have hs2:=zat hs1 1 (.string tt.2.1)
 have HS2:=Lib.hid (hs2.trans (show _=some (Obj.cells #[.string tt.1,.string tt.2.1] 23 (0,0)) from rfl))
 have HBF:=Lib.hid (zag (zag (g:=B0) (j:=0) (v:=.string tt.1) hB5 HBE.out) (j:=1) (v:=.string tt.2.1) (g:=B0) HBE.out)
 clear hs1 hs2 hbk hbk5 hba hb1 HD
 go_wp2
 refine bodyPost_ret (zbI rfl _ _ B0 23 #[.string tt.1,.string tt.2.1] (0,0) _ rfl HS2.out Tryz.underlying23 rfl (by kernel_rfl)) rfl ?_
 exact ⟨rfl,HBF.out⟩
noncomputable def rat_Simple.f (a0_0 a0_1 a1_0 a1_1:ByteArray):Option (ByteArray×ByteArray×Int):=twoF (fun x y=>if y<x then 9 else 0) (fun x y=>simR x y) a0_0 a0_1 a1_0 a1_1
theorem rat_Simple.calls (a0 a1 b0 b1:ByteArray) (r1 r2:ByteArray) (r3:Int) (w:World) (h:rat_Simple.f a0 a1 b0 b1=some (r1,r2,r3)) :
  Calls Tryz.prog 57 #[.agg #[.string a0,.string a1],.agg #[.string b0,.string b1]] w fun e w'=>e = .returned (.tuple #[.agg #[.string r1,.string r2],.int .i64 r3])∧Below w.heap.size w w':=by
 refine Simple_wrap a0 a1 b0 b1 w (r1,r2,r3) (fun W _ => ?_)
 unfold rat_Simple.f at h
 by_cases hh:(∃ x,RR a0 a1 x)∧∃ y,RR b0 b1 y
 ·obtain ⟨⟨x,hx⟩,⟨y,hy⟩⟩:=hh
  rw [twoF_yes hx hy] at h
  rw [←Option.some.inj h]
  exact two_yes a0 a1 b0 b1 x y 138 #[] (if y<x then 9 else 0) (simR x y) W (enters_of Tryz.func138 (by kernel_rfl) rfl) hx hy (Simple_do W x y hx.bd hy.bd) (fun hw=>by by_cases h0:y<x; (rw [if_pos h0] at hw; exact absurd hw (by decide)); exact (simR_bd (Rat.not_lt.1 h0) hx.bd hy.bd).mono (by decide)) (n:=5000) (by decide)
 ·rw [twoF_no hh] at h
  rw [←Option.some.inj h]
  exact two_no a0 a1 b0 b1 138 #[] W hh
end Go.Proofs.ZQ
end
section
namespace Go.Proofs.ZQ
open Go.RowKit Go.Proofs.ZW.Wa Go.Proofs.ZP Go.Proofs.ZW.Wb Go.Proofs.ZW.Wc
noncomputable def c2_Compare.f (a0_0:Bool) (a0_1:ByteArray) (a0_2:ByteArray) (a1_0:Bool) (a1_1:ByteArray) (a1_2:ByteArray):Option (Int):=(c2_Minus.f a1_0 a1_1 a1_2).bind fun bt821=>((c2_Plus.f a0_0 a0_1 a0_2 bt821.1 bt821.2.1 bt821.2.2).bind fun bt824=>(if bt824.2.1.toList=([48]:List UInt8) then (some 0) else (if bt824.1=true then (some (-1)) else (some 1))))
theorem c2_Compare.calls (a0_0:Bool) (a0_1:ByteArray) (a0_2:ByteArray) (a1_0:Bool) (a1_1:ByteArray) (a1_2:ByteArray) (r:Int) (w:World) (h:c2_Compare.f a0_0 a0_1 a0_2 a1_0 a1_1 a1_2=some r) :
  Calls Tryz.prog 63 #[.agg #[.bool a0_0,.string a0_1,.string a0_2],.agg #[.bool a1_0,.string a1_1,.string a1_2]] w fun e w'=>e = .returned (.int .i64 r)∧Below w.heap.size w w':=by
 unfold c2_Compare.f at h
 obtain ⟨⟨m0,m1,m2⟩,hm,h2⟩:=Option.bind_eq_some_iff.1 h
 obtain ⟨⟨d0,d1,d2⟩,hd,h3⟩:=Option.bind_eq_some_iff.1 h2
 have HM:=Lib.hid (fun W=>c2_Minus.calls a1_0 a1_1 a1_2 m0 m1 m2 W hm)
 have HP:=Lib.hid (fun W=>c2_Plus.calls a0_0 a0_1 a0_2 m0 m1 m2 d0 d1 d2 W hd)
 have H:Hid ((if d1.toList=([48]:List UInt8) then (some 0) else (if d0=true then (some (-1)) else (some 1)))=some r):=Lib.hid h3
 clear h h2 h3 hm hd
 go_enter Tryz.func63,Tryz.ntmps63
 obtain ⟨fa,fb,hba⟩:=fr_two w a0_0 a1_0 a0_1 a0_2 a1_1 a1_2
 go_wp2_with fail
 generalize ((w.alloc (.cells #[.bool a0_0,.string a0_1,.string a0_2] 66)).alloc (.cells #[.bool a1_0,.string a1_1,.string a1_2] 66))=W0 at *
 generalize hBx:w.heap.size+1=X0 at *
 have HK:=Lib.hid (show ∀ W':World,Below W0.heap.size W0 W'→W'.cell? ⟨w.heap.size,0,none⟩=some (.bool a0_0)∧W'.cell? ⟨w.heap.size,1,none⟩=some (.string a0_1)∧W'.cell? ⟨w.heap.size,2,none⟩=some (.string a0_2)∧W'.cell? ⟨X0,0,none⟩=some (.bool a1_0)∧W'.cell? ⟨X0,1,none⟩=some (.string a1_1)∧W'.cell? ⟨X0,2,none⟩=some (.string a1_2) from fun W' h=>⟨(fa.below h).c0,(fa.below h).c1,(fa.below h).c2,(fb.below h).c0,(fb.below h).c1,(fb.below h).c2⟩)
 have HLT:=Lib.hid (show w.heap.size<W0.heap.size∧X0<W0.heap.size from ⟨zar fa,zar fb⟩)
 have HQS:=Lib.hid (show ∀ (W':World) (D:Nat) (u v t:Value),W0.heap.size≤D→Below W0.heap.size W0 W'→(fun w':World=>w'.cell? ⟨w.heap.size,0,none⟩=some (.bool a0_0)∧w'.cell? ⟨w.heap.size,1,none⟩=some (.string a0_1)∧w'.cell? ⟨w.heap.size,2,none⟩=some (.string a0_2)∧w'.cell? ⟨X0,0,none⟩=some (.bool a1_0)∧w'.cell? ⟨X0,1,none⟩=some (.string a1_1)∧w'.cell? ⟨X0,2,none⟩=some (.string a1_2)) (((W'.setCell ⟨D,0,none⟩ u).setCell ⟨D,1,none⟩ v).setCell ⟨D,2,none⟩ t) from fun W' D u v t hD h=>HK.out _ (Below.setCell (p:=⟨D,2,none⟩) (Below.setCell (p:=⟨D,1,none⟩) (Below.setCell (p:=⟨D,0,none⟩) h hD u) hD v) hD t))
 dsimp only at HQS
 clear hBx fa fb
 have HBA:=Lib.hid hba
 clear hba
 go_region_held3 (fun w'=>w'.cell? ⟨w.heap.size,0,none⟩=some (.bool a0_0)∧w'.cell? ⟨w.heap.size,1,none⟩=some (.string a0_1)∧w'.cell? ⟨w.heap.size,2,none⟩=some (.string a0_2)∧w'.cell? ⟨X0,0,none⟩=some (.bool a1_0)∧w'.cell? ⟨X0,1,none⟩=some (.string a1_1)∧w'.cell? ⟨X0,2,none⟩=some (.string a1_2))
  (first|((with_reducible refine HQS.out _ _ _ _ _ ?_ ?_); (first|exact hZ|exact Nat.le_trans hb1.size hb2.size); repeat (with_reducible first|exact Below.refl _ _|apply zaj|apply zab|apply zaa|refine bthen ?_ hb2|refine bthen ?_ hb1))|(with_reducible refine HK.out _ ?_; repeat (with_reducible first|exact Below.refl _ _|apply zaj|apply zab|apply zaa|refine bthen ?_ hb2|refine bthen ?_ hb1)))
  ((first
   | (go_simp; go_at_call 62; (with_reducible change Calls _ _ #[.agg #[.bool a1_0,.string a1_1,.string a1_2]] _ _); refine (HM.out _).mono ?_; rintro e w1 ⟨rfl,hb1⟩)
   | (go_simp; go_at_call 60; (with_reducible change Calls _ _ #[.agg #[.bool a0_0,.string a0_1,.string a0_2],.agg #[.bool m0,.string m1,.string m2]] _ _); refine (HP.out _).mono ?_; rintro e w2 ⟨rfl,hb2⟩; first|(have f2:=(FrAt.new w1 false ⟨#[]⟩ ⟨#[]⟩).below hb2; have hZ:=hb1.size; have c0:=f2.c0; have c1:=f2.c1; have c2:=f2.c2; have g0:=zae f2 0; have g1:=zae f2 1; have g2:=zae f2 2)|(have f2:FrAt w2 W0.heap.size false ⟨#[]⟩ ⟨#[]⟩:=((FrAt.new W0.drew false ⟨#[]⟩ ⟨#[]⟩).below hb1).below hb2; have hZ:=Nat.le_refl W0.heap.size; have c0:=f2.c0; have c1:=f2.c1; have c2:=f2.c2; have g0:=zae f2 0; have g1:=zae f2 1; have g2:=zae f2 2)|skip)))
 all_goals
  rename_i hHeld
  clear hHeld HK HQS HM HP
  have hB2:Below W0.heap.size W0 w2:=by repeat (with_reducible first|exact Below.refl _ _|apply zaj|apply zab|apply zaa|refine bthen ?_ hb2|refine bthen ?_ hb1)
  have hD2:=HBA.out.size
  have h:=H.out
  first
  | (obtain ⟨hF,hBF⟩:=fr_put f2 (bthen HBA.out hB2) (Nat.le_trans hD2 hZ) d0 d1 d2; clear f2 hZ c0 c1 c2 g0 g1 g2; generalize World.setCell _ _ _=wF at hF hBF ⊢)
  | (have hF:=FrAt.new w2 d0 d1 d2; have hBF:=zaa (bthen HBA.out hB2) (.cells #[.bool d0,.string d1,.string d2] 66); generalize World.alloc _ _=wF at hF hBF ⊢)
  clear hB2 hD2 hb1 hb2 H HBA HLT
  have q0:=hF.c0
  have q1:=hF.c1
  clear hF
  have HBF:=Lib.hid hBF
  clear hBF
  by_cases h0:d1.toList=([48]:List UInt8)
  ·cases (if_pos h0).symm.trans h
   go_wp2
   go_ret
   exact ⟨rfl,HBF.out⟩
  ·have h:=(if_neg h0).symm.trans h
   have h0b:(d1.toList == ([48]:List UInt8))=false:=by simpa using h0
   cases d0
   ·cases (if_neg (by decide)).symm.trans h
    go_wp2
    go_ret
    exact ⟨rfl,HBF.out⟩
   ·cases (if_pos rfl).symm.trans h
    go_wp2
    go_ret
    exact ⟨rfl,HBF.out⟩
end Go.Proofs.ZQ
end
section
namespace Go.Proofs.ZQ
open Go.RowKit Go.Proofs.ZW.Wa Go.Proofs.ZW.Wb Go.Proofs.ZW.Wc
attribute [local go_sem] zaI zaG zaS zaR zaC zaB zaH zaF
noncomputable def c2_Cmp.j0:Nat→Bool→ByteArray→ByteArray→ByteArray→ByteArray→Option (Int×Int)
 | 0,_,_,_,_,_=>none
 | k+1,x13,x801000,x801001,x802000,x802001=>if x13=true then (some (0,3)) else ((c2_Read.f k x801000 x801001).bind fun bt804=>((c2_Read.f k x802000 x802001).bind fun bt807=>((c2_Compare.f bt804.1 bt804.2.1 bt804.2.2 bt807.1 bt807.2.1 bt807.2.2).bind fun t810=>(some (t810,0)))))
noncomputable def c2_Cmp.f (k:Nat) (a0_0:ByteArray) (a0_1:ByteArray) (a1_0:ByteArray) (a1_1:ByteArray):Option (Int×Int):=(c2_Right.f k a0_0 a0_1).bind fun t802=>(if t802=true then ((c2_Right.f k a1_0 a1_1).bind fun t803=>(c2_Cmp.j0 k (!t803) a0_0 a0_1 a1_0 a1_1)) else (c2_Cmp.j0 k true a0_0 a0_1 a1_0 a1_1))
noncomputable def c2_Down.j0:Nat→ByteArray→Bool→Bool→ByteArray→ByteArray→Option (Bool×ByteArray×ByteArray)
 | 0,_,_,_,_,_=>none
 | k+1,x3,x18,x817000,x817001,x817002=>if x18=true then ((c1_Plus.f x3 (⟨#[49]⟩:ByteArray)).bind fun t820=>((c2_Lowest.f x817000 t820 (⟨#[49]⟩:ByteArray)).bind fun bt821=>(some (bt821.1,bt821.2.1,bt821.2.2)))) else ((c2_Lowest.f x817000 x3 (⟨#[49]⟩:ByteArray)).bind fun bt824=>(some (bt824.1,bt824.2.1,bt824.2.2)))
noncomputable def c2_Down.f (k:Nat) (a0_0:Bool) (a0_1:ByteArray) (a0_2:ByteArray):Option (Bool×ByteArray×ByteArray):=(c1_Divide.f a0_1 a0_2).bind fun bt818=>(if a0_0=true then (c2_Down.j0 k bt818.1 (bt818.2.toList != ([48]:List UInt8)) a0_0 a0_1 a0_2) else (c2_Down.j0 k bt818.1 false a0_0 a0_1 a0_2))
noncomputable def c2_Floor.f (k:Nat) (a0_0:ByteArray) (a0_1:ByteArray):Option (ByteArray×ByteArray×Int):=(c2_Right.f k a0_0 a0_1).bind fun t829=>(if t829=true then ((c2_Read.f k a0_0 a0_1).bind fun bt830=>((c2_Down.f k bt830.1 bt830.2.1 bt830.2.2).bind fun bt833=>((c2_Told.f k bt833.1 bt833.2.1 bt833.2.2).bind fun bt836=>(some (bt836.1,bt836.2.1,bt836.2.2))))) else (some ((⟨#[]⟩:ByteArray),(⟨#[]⟩:ByteArray),3)))
noncomputable def rat_Sign.f (a0_0:ByteArray) (a0_1:ByteArray):Option (Int×Int):=(rat_Of.f 0).bind fun bt812=>((rat_Cmp.f a0_0 a0_1 bt812.1 bt812.2).bind fun bt814=>(some (bt814.1,bt814.2)))
end Go.Proofs.ZQ
end
section
namespace Go.Proofs.ZQ
open Go.RowKit Go.Proofs.ZW.Wa Go.Proofs.ZP
theorem cmpR_sub (x y:Rat):cmpR x y=(x-y).num.sign:=by
 have hd:(0:Int)<(x.den:Int)*y.den:=Int.mul_pos (by have:=x.den_pos; omega) (by have:=y.den_pos; omega)
 have e:x-y=Rat.divInt (x.num*y.den-y.num*x.den) (x.den*y.den):=by
  rw [Rat.sub_eq_add_neg,zcT]
  have e1:(-y).num = -y.num:=Rat.neg_num y
  have e2:(-y).den=y.den:=rfl
  rw [e1,e2,Int.neg_mul]; rfl
 have h:=num_mul (x.num*y.den-y.num*x.den) (x.den*y.den) (by omega)
 rw [←e] at h
 have hp:(0:Int)<(x-y).den:=by have:=(x-y).den_pos; omega
 unfold cmpR
 refine (sign_scale hd hp ?_).symm
 rw [h,Int.mul_comm]
theorem Compare_Fr {x y:Rat} {k:Nat} (hx:Sz k x) (hy:Sz k y) (hk:k≤1000000):c2_Compare.f (Fr x).1 (Fr x).2.1 (Fr x).2.2 (Fr y).1 (Fr y).2.1 (Fr y).2.2=some (cmpR x y):=by
 unfold c2_Compare.f
 have h:=(Plus_Fr hx (neg_sz hy) hk).1
 rw [←Rat.sub_eq_add_neg] at h
 rw [Minus_Fr,Option.bind_some,h,Option.bind_some,cmpR_sub]
 generalize x-y=d
 show (if (T d.num.natAbs).toList=([48]:List UInt8) then _ else (if decide (d.num<0)=true then _ else _))=_
 by_cases h0:d.num=0
 ·rw [if_pos (b48.2 (by rw [h0]; rfl)),h0]; rfl
 ·rw [if_neg (fun e=>h0 (by have:=T_inj (b48.1 e); omega))]
  by_cases h1:d.num<0
  ·rw [if_pos (decide_eq_true h1),Int.sign_eq_neg_one_of_neg h1]
  ·rw [if_neg (by simpa using h1),Int.sign_eq_one_of_pos (by omega)]
theorem simR_between {x y:Rat} (hxy:x≤y):x≤simR x y∧simR x y≤y:=by
 unfold simR
 split
 ·rename_i h; exact h
 ·split
  ·rename_i h0; exact (zaN h0 hxy).between h0 hxy
  ·rename_i h h0
   have h2:0 < -y:=by grind
   have h3 : -y ≤ -x:=by grind
   obtain ⟨k1,k2⟩:=(zaN h2 h3).between h2 h3
   constructor<;>grind
theorem simR_least {x y:Rat} (hxy:x≤y) (z:Rat) (h1:x≤z) (h2:z≤y):(simR x y).den≤z.den:=by
 unfold simR
 split
 ·exact z.den_pos
 ·split
  ·rename_i h0; exact ((zaN h0 hxy).least h0 hxy z h1 h2).2
  ·rename_i h h0
   have h2':0 < -y:=by grind
   have h3 : -y ≤ -x:=by grind
   have k:=((zaN h2' h3).least h2' h3 (-z) (by grind) (by grind)).2
   rw [Rat.neg_den] at k
   rw [Rat.neg_den]; exact k
theorem simR_small {x y:Rat} (hxy:x≤y) (n:Nat) (hn:0<n) (hx1:x.num.natAbs<n) (hx2:x.den<n) (hy1:y.num.natAbs<n) (hy2:y.den<n):(simR x y).num.natAbs<n∧(simR x y).den<n:=by
 refine ⟨?_,Nat.lt_of_le_of_lt (simR_least hxy x Rat.le_refl hxy) hx2⟩
 unfold simR
 split
 ·exact hn
 ·split
  ·rename_i h0
   have hb:=(zaN h0 hxy).between h0 hxy
   have k:=((zaN h0 hxy).least h0 hxy x Rat.le_refl hxy).1
   have h5:0<(simp1 x y).num:=rpos.1 (by grind)
   omega
  ·rename_i h h0
   have h2:0 < -y:=by grind
   have h3 : -y ≤ -x:=by grind
   have hb:=(zaN h2 h3).between h2 h3
   have k:=((zaN h2 h3).least h2 h3 (-y) Rat.le_refl h3).1
   have h5:0<(simp1 (-y) (-x)).num:=rpos.1 (by grind)
   rw [Rat.neg_num] at k
   rw [Rat.neg_num]
   omega
theorem cmpR_le0 {x y:Rat}:cmpR x y≤0↔x≤y:=cs_le
theorem RatSimplest_any (a0 a1 b0 b1 c0 c1:ByteArray) (W:World) :
  Calls Tryz.prog 14 #[.agg #[.string a0,.string a1],.agg #[.string b0,.string b1],.agg #[.string c0,.string c1]] W fun e W'=>e = .returned (.bool true)∧Below W.heap.size W W':=by
 have HW:Ans 32 #[] (.bool true):=fun W=>awakeT_calls true W awake_f
 have rt:∀ a b:ByteArray,∃ r,Ans 36 #[.agg #[.string a,.string b]] (.bool r)∧(r=true→∃ x,RR a b x):=fun a b=>by
  by_cases h:∃ x,RR a b x
  ·obtain ⟨x,hx⟩:=h
   exact ⟨true,zdc hx,fun _=>⟨x,hx⟩⟩
  ·exact ⟨false,right_ans_no h,fun e=>absurd e (by decide)⟩
 obtain ⟨ra,HRa,ha⟩:=rt a0 a1
 obtain ⟨rb,HRb,hb⟩:=rt b0 b1
 obtain ⟨rc,HRc,hc⟩:=rt c0 c1
 by_cases hr:(ra && rb && rc)=true
 ·have hr2:ra=true∧rb=true∧rc=true:=by
   rw [Bool.and_eq_true,Bool.and_eq_true] at hr
   exact ⟨hr.1.1,hr.1.2,hr.2⟩
  obtain ⟨rfl,rfl,rfl⟩:=hr2
  obtain ⟨x,hx⟩:=ha rfl
  obtain ⟨y,hy⟩:=hb rfl
  obtain ⟨z,hz⟩:=hc rfl
  have hS:∀ r1 r2 r3,tell (if y<x then 9 else 0) (simR x y)=(r1,r2,r3)→Ans 57 #[.agg #[.string a0,.string a1],.agg #[.string b0,.string b1]] (.tuple #[.agg #[.string r1,.string r2],.int .i64 r3]):=fun r1 r2 r3 h W=>rat_Simple.calls a0 a1 b0 b1 r1 r2 r3 W ((twoF_yes hx hy).trans (congrArg some h))
  by_cases hyx:y<x
  ·have hc0:cmpR x y>0:=Int.not_le.1 (fun e=>absurd (cmpR_le0.1 e) (Rat.not_le.2 hyx))
   have h9:=hS ⟨#[]⟩ ⟨#[]⟩ 9 (by rw [if_pos hyx]; exact if_neg (by decide))
   exact simplest_below a0 a1 b0 b1 c0 c1 _ _ (cmpR x y) 0 hc0 HRa HRb HRc h9 (fun W=>rat_Cmp.calls a0 a1 b0 b1 _ _ W (rat_cmp_yes hx hy)) HW W
  ·have hxy:x≤y:=Rat.not_lt.1 hyx
   obtain ⟨k1,k2⟩:=simR_small hxy (10^600) (Nat.pow_pos (by decide)) hx.ln hx.ld hy.ln hy.ld
   have hrr:RR (wtext (simR x y).num) (T (simR x y).den) (simR x y):=⟨rfl,rfl,k1,k2⟩
   have h0:=hS (wtext (simR x y).num) (T (simR x y).den) 0 (by rw [if_neg hyx,tell_ok]; exact if_pos ⟨k1,k2⟩)
   obtain ⟨b1',b2'⟩:=simR_between hxy
   have cmp:∀ {p q:Rat},Sz 600 p→Sz 600 q→Ans 63 #[FrV p,FrV q] (.int .i64 (cmpR p q)):=fun hp hq W=>c2_Compare.calls _ _ _ _ _ _ _ W (Compare_Fr hp hq (by decide))
   have sx:=rr_sz hx
   have sy:=rr_sz hy
   have sz:=rr_sz hz
   have ss:=rr_sz hrr
   refine simplest_walk a0 a1 b0 b1 c0 c1 (wtext (simR x y).num) (T (simR x y).den) (Fr x).2.1 (Fr x).2.2 (Fr (simR x y)).2.1 (Fr (simR x y)).2.2 (Fr y).2.1 (Fr y).2.2 (Fr z).2.1 (Fr z).2.2 (Fr x).1 (Fr (simR x y)).1 (Fr y).1 (Fr z).1 (cmpR x (simR x y)) (cmpR (simR x y) y) (cmpR x z) (cmpR z y) (by have:=cmpR_le0.2 b1'; omega) (by have:=cmpR_le0.2 b2'; omega) HRa HRb HRc h0 (zdc hrr) (read_ans hx) (read_ans hrr) (read_ans hy) (read_ans hz) (cmp sx ss) (cmp ss sy) (cmp sx sz) (cmp sz sy) HW ?_ W
   intro h3 h4
   have hl:=simR_least hxy z (cmpR_le0.1 h3) (cmpR_le0.1 h4)
   rw [hz.den]
   have hm:=za9 hl
   refine ⟨by omega,fun he => ?_⟩
   rw [ba_toList,ba_toList,less_dval _ _ (by rw [zaq,zaq]; exact he) (T_can _).2.1 (T_can _).2.1,zbj,zbj]
   exact decide_eq_false (by omega)
 ·exact simplest_out a0 a1 b0 b1 c0 c1 ra rb rc (by simpa using hr) HRa HRb HRc HW W
end Go.Proofs.ZQ
end
