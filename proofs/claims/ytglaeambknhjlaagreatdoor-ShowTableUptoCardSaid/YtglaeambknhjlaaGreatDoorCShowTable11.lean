/- Texts under the proof, joined by a program (prune.py): HRat, HRatOps, HRatSet, P92, P93, SLimb, P8, P98, P99, SRight. -/
import Derived.Test.YtglaeambknhjlaaGreatDoorCShowTable10
import Derived.Test.YtglaeambknhjlaaGreatDoorCShowTable05
set_option linter.unusedVariables false
set_option linter.unusedSimpArgs false
set_option exponentiation.threshold 20001
set_option maxHeartbeats 8000000
set_option maxRecDepth 100000
section
namespace Go.Proofs.YtglaeambknhjlaaGreatDoor.P
open Go.RowKit Go.Proofs.YtglaeambknhjlaaGreatDoorW.PrintWords
theorem num_calls (g:Nat) (x:Rat) (w:World) (hx:RatAt w g x) {n:Nat} (hs:Bdr n x) (hn:n≤big) :
  Calls Tryz.prog 155 #[.pointer (some ⟨g,0,none⟩)] w fun e w'=>e = .returned (.pointer (some ⟨w.heap.size,0,none⟩))∧IntAt w' w.heap.size 0 x.num∧Below w.heap.size w w':=by
 have hnew:=IntAt.new w 105 (by decide)
 have hu105:=Tryz.underlying105
 have hba:=below_alloc (Below.refl w.heap.size w) (.cells #[.bool false,.slice none 0 0] 105)
 have hlt:=hx.lt
 go_enter Tryz.func155,Tryz.ntmps155
 go_wp2_with fail
 refine (set_calls w.heap.size 0 g 0 x.num _ hnew.slot (hx.num.below hba) (Or.inl (by omega)) hs.1 hn).mono ?_
 rintro e w1 ⟨rfl,hx1,hu1⟩
 go_wp2
 go_ret
 exact ⟨rfl,hx1,hu1.new hba (Nat.le_refl _)⟩
theorem denom_calls (g:Nat) (x:Rat) (w:World) (hx:RatAt w g x) {n:Nat} (hs:Bdr n x) (hn:n≤big) :
  Calls Tryz.prog 157 #[.pointer (some ⟨g,0,none⟩)] w fun e w'=>e = .returned (.pointer (some ⟨w.heap.size,0,none⟩))∧IntAt w' w.heap.size 0 x.den∧Below w.heap.size w w':=by
 obtain ⟨d,hd,he⟩:=hx.den
 have hnew:=IntAt.new w 105 (by decide)
 have hu105:=Tryz.underlying105
 have hba:=below_alloc (Below.refl w.heap.size w) (.cells #[.bool false,.slice none 0 0] 105)
 have hlt:=hx.lt
 by_cases h0:d=0
 ·have hd1:x.den=1:=by
   rcases he with h|h
   ·exact absurd (h.symm.trans h0) (den_ne x)
   ·exact h.2
  rw [hd1]
  subst h0
  clear he hd1
  go_enter Tryz.func157,Tryz.ntmps157
  go_wp2_with fail
  refine (sign_calls g 2 0 _ hd).mono ?_
  rintro e w1 ⟨rfl,rfl⟩
  go_wp2_with fail
  refine (newInt_calls 1 _ (by decide) (by decide)).mono ?_
  rintro e w1 ⟨rfl,hx1,hb1⟩
  go_wp2
  go_ret
  exact ⟨rfl,hx1,hb1⟩
 ·have hd1:d=x.den:=by
   rcases he with h|h
   ·exact h
   ·exact absurd h.1 h0
  subst hd1
  have hsg:((x.den:Int).sign == 0)=false:=beq_eq_false_iff_ne.2 (fun h=>h0 (Int.sign_eq_zero_iff_zero.1 h))
  clear he h0
  go_enter Tryz.func157,Tryz.ntmps157
  go_wp2_with fail
  refine (sign_calls g 2 x.den _ hd).mono ?_
  rintro e w1 ⟨rfl,rfl⟩
  go_wp2_with fail
  refine (set_calls w.heap.size 0 g 2 x.den _ hnew.slot (hd.below hba) (Or.inl (by omega)) hs.2 hn).mono ?_
  rintro e w1 ⟨rfl,hx1,hu1⟩
  go_wp2
  go_ret
  exact ⟨rfl,hx1,hu1.new hba (Nat.le_refl _)⟩
theorem tdiv_abs (a g:Nat):((a:Int)).tdiv (g:Int)=((a/g:Nat):Int):=by
 rw [Int.tdiv_eq_ediv_of_nonneg (by omega),Int.natCast_ediv]
theorem setFrac_calls (g b1 o1 b2 o2:Nat) (x y:Int) (w:World) (hz:Slot w g 2) (hx:IntAt w b1 o1 x) (hy:IntAt w b2 o2 y) (hy0:y≠0) {n:Nat} (hs:Bd n x) (ht:Bd n y) (hn:n≤big) :
  Calls Tryz.prog 109 #[.pointer (some ⟨g,0,none⟩),.pointer (some ⟨b1,o1,none⟩),.pointer (some ⟨b2,o2,none⟩)] w fun e w'=>e = .returned (.pointer (some ⟨g,0,none⟩))∧RatAt w' g (Rat.divInt x y)∧Upd w w' g 0 4:=by
 have hu105:=Tryz.underlying105
 have hlt1:=hx.lt
 have hlt2:=hy.lt
 have hltg:=hz.lt
 have hparts:=div_parts x y hy0
 have HP:=Lib.hid hparts
 clear hparts
 have hnew0:=IntAt.new w 105 (by decide)
 have hba0:=below_alloc (Below.refl w.heap.size w) (.cells #[.bool false,.slice none 0 0] 105)
 go_enter Tryz.func109,Tryz.ntmps109
 go_wp2_with fail
 refine (abs_calls w.heap.size 0 b1 o1 x _ hnew0.slot (hx.below hba0) hs hn).mono ?_
 rintro e w1 ⟨rfl,hp1,hu1⟩
 have hb1:=hu1.new hba0 (Nat.le_refl _)
 have hnew1:=IntAt.new w1 105 (by decide)
 have hba1:=below_alloc (Below.refl w1.heap.size w1) (.cells #[.bool false,.slice none 0 0] 105)
 have hs1:=hb1.size
 have hP:=hp1.lt
 go_wp2_with fail
 refine (abs_calls w1.heap.size 0 b2 o2 y _ hnew1.slot ((hy.below hb1).below hba1) ht hn).mono ?_
 rintro e w2 ⟨rfl,hq2,hu2⟩
 have hB2:=hu2.new (bthen hb1 hba1) (by have:=hb1.size; omega)
 have hs2:=hu2.size
 have hp2:=(hp1.below hba1).upd hu2 (Or.inl (by omega))
 have hQ:=hq2.lt
 obtain ⟨na,Aa,ca,xs,h1,-,-,hN1⟩:=(hx.below hB2).out
 obtain ⟨nb,Ab,cb,ys,k1,-,-,hN2⟩:=(hy.below hB2).out
 have HNA:=Lib.hid hN1.neg_iff
 have HNB:=Lib.hid hN2.neg_iff
 have HPQ:=Lib.hid (And.intro hp2 hq2)
 have HB2:=Lib.hid hB2
 clear hN1 hN2 hnew0 hba0 hp1 hu1 hb1 hnew1 hba1 hq2 hu2 hp2 hB2 hs2
 have hPQ:w.heap.size<w1.heap.size:=hP
 generalize hPe:w.heap.size=P at *
 generalize hQe:w1.heap.size=Q at *
 go_wp2_with fail
 go_quiet (fail)
 generalize hqd:w2.drewN _=w3
 have hb3:Below w2.heap.size w2 w3:=by subst hqd; exact below_drewN' _ _
 clear hqd h1 k1
 have hp3:=HPQ.out.1.below hb3
 have hq3:=HPQ.out.2.below hb3
 have hB3:Below P w w3:=by have h:=bthen (w:=w) (by rw [hPe]; exact HB2.out) hb3; rwa [hPe] at h
 have hnew3:=IntAt.new w3 105 (by decide)
 have hba3:=below_alloc (Below.refl w3.heap.size w3) (.cells #[.bool false,.slice none 0 0] 105)
 have hltp:=hp3.lt
 have hltq:=hq3.lt
 clear HPQ HB2 hb3
 go_wp2_with fail
 refine (gcd_calls w3.heap.size 0 P 0 Q 0 _ _ (x.natAbs:Int) (y.natAbs:Int) _ hnew3.slot (hp3.below hba3) (hq3.below hba3) (by omega) (by omega) hs.abs ht.abs hn).mono ?_
 rintro e w4 ⟨rfl,hg4,hu4⟩
 have hg4':IntAt w4 w3.heap.size 0 ((Int.gcd x y:Nat):Int):=hg4
 have hp4:=(hp3.below hba3).upd hu4 (Or.inl (by omega))
 have hq4:=(hq3.below hba3).upd hu4 (Or.inl (by omega))
 have hb34:=hu4.new hba3 (Nat.le_refl _)
 have hB4:Below P w w4:=by have h:=bthen (w:=w) (by rw [hPe]; exact hB3) hb34; rwa [hPe] at h
 have hltg4:=hg4.lt
 clear hg4 hu4 hnew3 hba3 hp3 hq3 hb34 hB3
 generalize w3.heap.size=G at *
 go_wp2_with fail
 refine (newInt_calls 1 _ (by decide) (by decide)).mono ?_
 rintro e w5 ⟨rfl,hn5,hb5⟩
 have hg5:=hg4'.below hb5
 have hp5:=hp4.below hb5
 have hq5:=hq4.below hb5
 have hB5:Below P w w5:=by have h:=bthen (w:=w) (by rw [hPe]; exact hB4) hb5; rwa [hPe] at h
 clear hg4' hp4 hq4 hb5 hB4
 generalize w4.heap.size=N1 at *
 go_wp2_with fail
 refine (cmp_calls G 0 N1 0 ((Int.gcd x y:Nat):Int) 1 _ hg5 hn5).mono ?_
 rintro e w6 ⟨rfl,hb6⟩
 have hg6:=hg5.below hb6
 have hp6:=hp5.below hb6
 have hq6:=hq5.below hb6
 have hB6:Below P w w6:=by have h:=bthen (w:=w) (by rw [hPe]; exact hB5) hb6; rwa [hPe] at h
 clear hg5 hp5 hq5 hb6 hB5 hn5
 have hgpos:0<Int.gcd x y:=Int.gcd_pos_of_ne_zero_right _ hy0
 by_cases h1:1<Int.gcd x y
 ·have hsg:(((Int.gcd x y:Nat):Int)-1).sign=1:=Int.sign_eq_one_of_pos (by omega)
  rw [hsg]
  have hgb:Bd n ((Int.gcd x y:Nat):Int):=ht.le (by rw [Int.natAbs_natCast]; exact Nat.gcd_le_right _ (by omega))
  have hgn:((Int.gcd x y:Nat):Int)≠0:=by omega
  clear hsg
  go_wp2_with fail
  refine (quo_calls P 0 P 0 G 0 (x.natAbs:Int) ((Int.gcd x y:Nat):Int) _ hp6.slot hp6 hg6 hgn hs.abs hn).mono ?_
  rintro e w7 ⟨rfl,hp7,hu7⟩
  rw [tdiv_abs] at hp7
  have hg7:=hg6.upd hu7 (Or.inl (by omega))
  have hq7:=hq6.upd hu7 (Or.inl (by omega))
  go_wp2_with fail
  refine (quo_calls Q 0 Q 0 G 0 (y.natAbs:Int) ((Int.gcd x y:Nat):Int) _ hq7.slot hq7 hg7 hgn ht.abs hn).mono ?_
  rintro e w8 ⟨rfl,hqx,hu8⟩
  rw [tdiv_abs] at hqx
  have hpx:=hp7.upd hu8 (Or.inl (by omega))
  have hbx:Below P w w8:=by
   have h:=hu8.new (w0:=w) (hu7.new (w0:=w) (by rw [hPe]; exact hB6) (by omega)) (by omega)
   rwa [hPe] at h
  clear hgb hgn hp7 hu7 hg7 hq7 hu8 hg6 hp6 hq6 hB6
  have HA:=Lib.hid (And.intro hpx hqx)
  have HBX:=Lib.hid hbx
  clear hpx hqx hbx
  obtain ⟨np,Ap,cp,ps,p1,p2,p3,p4⟩:=HA.out.1.out
  have HPS:=Lib.hid p4.val_eq
  have hpwd:=p4.wd
  clear p1 p4
  go_wp2_with fail
  go_still_tail 8,(by kernel_rfl)
  change wpList _ _ _ _ _ w8.drew
  go_wp2_with fail
  have hzx:Slot w8 g 2:=hz.below (by rw [hPe]; exact HBX.out)
  refine (put_calls g 0 (!na == nb) Ap cp ps _ (hzx.lo.below (below_drew' _)) (p3.below (below_drew' _)) hpwd).mono ?_
  rintro e w9 ⟨rfl,hz9,hu9⟩
  rw [HPS.out] at hz9
  have hq9:=(HA.out.2.below (below_drew' _)).upd hu9 (Or.inl (by omega))
  obtain ⟨nq,Aq,cq,qs,q1,q2,q3,q4⟩:=hq9.out
  have hzs:=(hzx.below (below_drew' _)).upd hu9
  have hpt:=put_at hzs q3 rfl q4
  obtain ⟨⟨v0,hc0⟩,v1,hc1'⟩:=hzs.cells
  have hc1:w9.cell? ⟨g,3,none⟩=some v1:=hc1'
  have hf0:=hzs.frozen 2
  have hf1:=hzs.frozen 3
  have HPT:=Lib.hid hpt
  have HZ9:=Lib.hid hz9
  have HU9:=Lib.hid (hu9.lift (below_drew' _))
  clear hpt q4 hq9 hz9 hu9 p2 p3 HPS hzx hzs hc1'
  go_wp2
  go_ret
  refine ⟨rfl,⟨?_,_,HPT.out.1,Or.inl (by rw [HP.out.2])⟩,?_⟩
  ·have h:=HZ9.out.upd HPT.out.2 (Or.inr (Or.inl (by omega)))
   have es:(!na == nb)=(decide (x<0) != decide (y<0)):=by
    have e1:na=decide (x<0):=by have:=HNA.out; cases na<;>simp at this ⊢<;>omega
    have e2:nb=decide (y<0):=by have:=HNB.out; cases nb<;>simp at this ⊢<;>omega
    rw [e1,e2]; rfl
   rw [HP.out.1,←es]
   exact h
  ·have hB:Below w.heap.size w w8:=by rw [hPe]; exact HBX.out
   exact ((HU9.out.mono (Nat.le_refl _) (by omega)).trans (HPT.out.2.mono (by omega) (by omega))).lift hB
 ·have hg1:Int.gcd x y=1:=by omega
  have hp0:=HP.out
  rw [hg1,Nat.div_one,Nat.div_one] at hp0
  have HPX:=Lib.hid hp0
  clear hp0
  have hpx:=hp6
  have hqx:=hq6
  have hbx:=hB6
  rw [hg1,show ((1:Nat):Int)-1=0 by omega,Int.sign_zero]
  clear hg1
  clear hp6 hq6 hB6 hg6
  have HA:=Lib.hid (And.intro hpx hqx)
  have HBX:=Lib.hid hbx
  clear hpx hqx hbx
  obtain ⟨np,Ap,cp,ps,p1,p2,p3,p4⟩:=HA.out.1.out
  have HPS:=Lib.hid p4.val_eq
  have hpwd:=p4.wd
  clear p1 p4
  go_wp2_with fail
  go_still_tail 8,(by kernel_rfl)
  change wpList _ _ _ _ _ w6.drew
  go_wp2_with fail
  have hzx:Slot w6 g 2:=hz.below (by rw [hPe]; exact HBX.out)
  refine (put_calls g 0 (!na == nb) Ap cp ps _ (hzx.lo.below (below_drew' _)) (p3.below (below_drew' _)) hpwd).mono ?_
  rintro e w9 ⟨rfl,hz9,hu9⟩
  rw [HPS.out] at hz9
  have hq9:=(HA.out.2.below (below_drew' _)).upd hu9 (Or.inl (by omega))
  obtain ⟨nq,Aq,cq,qs,q1,q2,q3,q4⟩:=hq9.out
  have hzs:=(hzx.below (below_drew' _)).upd hu9
  have hpt:=put_at hzs q3 rfl q4
  obtain ⟨⟨v0,hc0⟩,v1,hc1'⟩:=hzs.cells
  have hc1:w9.cell? ⟨g,3,none⟩=some v1:=hc1'
  have hf0:=hzs.frozen 2
  have hf1:=hzs.frozen 3
  have HPT:=Lib.hid hpt
  have HZ9:=Lib.hid hz9
  have HU9:=Lib.hid (hu9.lift (below_drew' _))
  clear hpt q4 hq9 hz9 hu9 p2 p3 HPS hzx hzs hc1'
  go_wp2
  go_ret
  refine ⟨rfl,⟨?_,_,HPT.out.1,Or.inl (by rw [HPX.out.2])⟩,?_⟩
  ·have h:=HZ9.out.upd HPT.out.2 (Or.inr (Or.inl (by omega)))
   have es:(!na == nb)=(decide (x<0) != decide (y<0)):=by
    have e1:na=decide (x<0):=by have:=HNA.out; cases na<;>simp at this ⊢<;>omega
    have e2:nb=decide (y<0):=by have:=HNB.out; cases nb<;>simp at this ⊢<;>omega
    rw [e1,e2]; rfl
   rw [HPX.out.1,←es]
   exact h
  ·have hB:Below w.heap.size w w6:=by rw [hPe]; exact HBX.out
   exact ((HU9.out.mono (Nat.le_refl _) (by omega)).trans (HPT.out.2.mono (by omega) (by omega))).lift hB
theorem bd64 {n:Int} (h0 : -9223372036854775808≤n) (h1:n<9223372036854775808):Bd 64 n:=by
 unfold Bd; have:(2:Nat)^64=18446744073709551616:=by decide
 omega
theorem slot1 (w:World):Slot ((w.alloc (.cells #[.bool false,.slice none 0 0] 105)).alloc (.cells #[.bool false,.slice none 0 0] 105)) (w.heap.size+1) 0:=by
 have h:=(IntAt.new (w.alloc (.cells #[.bool false,.slice none 0 0] 105)) 105 (by decide)).slot
 rwa [World.size_alloc] at h
theorem slot2 (w:World):Slot (((w.alloc (.cells #[.bool false,.slice none 0 0] 105)).alloc (.cells #[.bool false,.slice none 0 0] 105)).alloc (.cells #[.bool false,.slice none 0 0] 105)) (w.heap.size+1+1) 0:=by
 have h:=(IntAt.new ((w.alloc (.cells #[.bool false,.slice none 0 0] 105)).alloc (.cells #[.bool false,.slice none 0 0] 105)) 105 (by decide)).slot
 rwa [World.size_alloc,World.size_alloc] at h
theorem newInt_new (n:Int) (w:World) (h0 : -9223372036854775808≤n) (h1:n<9223372036854775808) :
  Calls Tryz.prog 112 #[.int .i64 n] w fun e w'=>∃ D,e = .returned (.pointer (some ⟨D,0,none⟩))∧w.heap.size≤D∧IntAt w' D 0 n∧Below w.heap.size w w':=
 (newInt_calls n w h0 h1).mono fun e w' ⟨he,hi,hb⟩=>⟨_,he,Nat.le_refl _,hi,hb⟩
theorem num_new (g:Nat) (x:Rat) (w:World) (hx:RatAt w g x) {n:Nat} (hs:Bdr n x) (hn:n≤big) :
  Calls Tryz.prog 155 #[.pointer (some ⟨g,0,none⟩)] w fun e w'=>∃ D,e = .returned (.pointer (some ⟨D,0,none⟩))∧w.heap.size≤D∧IntAt w' D 0 x.num∧Below w.heap.size w w':=
 (num_calls g x w hx hs hn).mono fun e w' ⟨he,hi,hb⟩=>⟨_,he,Nat.le_refl _,hi,hb⟩
theorem denom_new (g:Nat) (x:Rat) (w:World) (hx:RatAt w g x) {n:Nat} (hs:Bdr n x) (hn:n≤big) :
  Calls Tryz.prog 157 #[.pointer (some ⟨g,0,none⟩)] w fun e w'=>∃ D,e = .returned (.pointer (some ⟨D,0,none⟩))∧w.heap.size≤D∧IntAt w' D 0 x.den∧Below w.heap.size w w':=
 (denom_calls g x w hx hs hn).mono fun e w' ⟨he,hi,hb⟩=>⟨_,he,Nat.le_refl _,hi,hb⟩
theorem newRat_calls (a b:Int) (w:World) (h0 : -9223372036854775808≤a) (h1:a<9223372036854775808) (k0 : -9223372036854775808≤b) (k1:b<9223372036854775808) (hb:b≠0) :
  Calls Tryz.prog 198 #[.int .i64 a,.int .i64 b] w fun e w'=>∃ D,e = .returned (.pointer (some ⟨D,0,none⟩))∧w.heap.size≤D∧RatAt w' D (Rat.divInt a b)∧Below w.heap.size w w':=by
 have hu105:=Tryz.underlying112
 have hnew:=RatAt.new w 112 (by decide)
 have hba:=below_alloc (Below.refl w.heap.size w) (.cells #[.bool false,.slice none 0 0,.bool false,.slice none 0 0] 112)
 have HA:=Lib.hid (bd64 h0 h1)
 have HB:=Lib.hid (bd64 k0 k1)
 go_enter Tryz.func198,Tryz.ntmps198
 go_wp2_with fail
 refine (newInt_new a _ h0 h1).mono ?_
 rintro e w1 ⟨D1,rfl,hD1,hx1,hb1⟩
 go_wp2_with fail
 refine (newInt_new b _ k0 k1).mono ?_
 rintro e w2 ⟨D2,rfl,hD2,hx2,hb2⟩
 have hx12:=hx1.below hb2
 have hb12:=bthen hba (bthen hb1 hb2)
 have hzz:=hnew.slot.below (bthen hb1 hb2)
 clear h0 h1 k0 k1
 go_wp2_with fail
 refine (setFrac_calls w.heap.size D1 0 D2 0 a b _ hzz hx12 hx2 hb HA.out HB.out (by unfold big; omega)).mono ?_
 rintro e w3 ⟨rfl,hz,hu⟩
 go_wp2
 go_ret
 exact ⟨_,rfl,Nat.le_refl _,hz,hu.new hb12 (Nat.le_refl _)⟩
theorem inv_calls (g g1:Nat) (x:Rat) (w:World) (hz:Slot w g 2) (hx:RatAt w g1 x) (hx0:x≠0) {n:Nat} (hs:Bdr n x) (hn:n≤big) :
  Calls Tryz.prog 127 #[.pointer (some ⟨g,0,none⟩),.pointer (some ⟨g1,0,none⟩)] w fun e w'=>e = .returned (.pointer (some ⟨g,0,none⟩))∧RatAt w' g x⁻¹∧Upd w w' g 0 4:=by
 have hu:=Tryz.underlying112
 rw [inv_divInt']
 go_enter Tryz.func127,Tryz.ntmps127
 go_wp2_with fail
 refine (denom_calls g1 x _ hx hs hn).mono ?_
 rintro e w1 ⟨rfl,hd1,hb1⟩
 have hx1:=hx.below hb1
 have hlt:=hd1.lt
 go_wp2_with fail
 refine (num_calls g1 x _ hx1 hs hn).mono ?_
 rintro e w2 ⟨rfl,hd2,hb2⟩
 have hd12:=hd1.below hb2
 have hb:=bthen hb1 hb2
 go_wp2_with fail
 refine (setFrac_calls g _ 0 _ 0 (x.den:Int) x.num _ (hz.below hb) hd12 hd2 (num_ne hx0) hs.2 hs.1 hn).mono ?_
 rintro e w3 ⟨rfl,hz3,hu3⟩
 go_wp2
 go_ret
 exact ⟨rfl,hz3,hu3.lift hb⟩
theorem rmul_calls (g g1 g2:Nat) (x y:Rat) (w:World) (hz:Slot w g 2) (hx:RatAt w g1 x) (hy:RatAt w g2 y) {n m:Nat} (hs:Bdr n x) (ht:Bdr m y) (hn:n+m≤big) :
  Calls Tryz.prog 118 #[.pointer (some ⟨g,0,none⟩),.pointer (some ⟨g1,0,none⟩),.pointer (some ⟨g2,0,none⟩)] w fun e w'=>e = .returned (.pointer (some ⟨g,0,none⟩))∧RatAt w' g (x*y)∧Upd w w' g 0 4:=by
 have hu:=Tryz.underlying112
 have hu105:=Tryz.underlying105
 rw [mul_divInt]
 have hxl:=hx.lt
 have hyl:=hy.lt
 have hsn:n≤n+m:=by omega
 have htn:m≤n+m:=by omega
 have hN0:=(IntAt.new w 105 (by decide)).slot
 have hN1:Slot ((w.alloc (.cells #[.bool false,.slice none 0 0] 105)).alloc (.cells #[.bool false,.slice none 0 0] 105)) (w.heap.size+1) 0:=by
  have h:=(IntAt.new (w.alloc (.cells #[.bool false,.slice none 0 0] 105)) 105 (by decide)).slot
  rwa [World.size_alloc] at h
 have hN2:=hN0.below (below_alloc (Below.refl _ _) (.cells #[.bool false,.slice none 0 0] 105))
 go_enter Tryz.func118,Tryz.ntmps118
 go_wp2_with fail
 go_region_held3 (fun _=>True) (first|go_keep|trivial)
  ((first
   | (go_simp; go_at_call 200; (with_reducible change Calls _ _ #[.pointer (some ⟨_,0,none⟩),.pointer (some ⟨g1,0,none⟩),.pointer (some ⟨g2,0,none⟩)] _ _); refine (mul_calls _ 0 g1 0 g2 0 x.num y.num _ (by first|exact hN0.below (by repeat (with_reducible first|exact Below.refl _ _|apply below_drew|apply pw_below_drewN|apply below_alloc))|exact hN1.below (by repeat (with_reducible first|exact Below.refl _ _|apply below_drew|apply pw_below_drewN|apply below_alloc))) (hx.num.below (by repeat (with_reducible first|exact Below.refl _ _|apply below_drew|apply pw_below_drewN|apply below_alloc))) (hy.num.below (by repeat (with_reducible first|exact Below.refl _ _|apply below_drew|apply pw_below_drewN|apply below_alloc))) (hs.1.mono hsn) (ht.1.mono htn) hn).mono ?_; rintro e w1 ⟨rfl,hp1,hu1⟩; have hb1:Below w.heap.size w w1:=hu1.new (by repeat (with_reducible first|exact Below.refl _ _|apply below_drew|apply pw_below_drewN|apply below_alloc)) (by first|exact Nat.le_refl _|exact Nat.le_succ _); have hpl:=hp1.lt; have hsw:=hb1.size; (first|(have hq1:Slot w1 (w.heap.size+1) 0:=(by refine Slot.upd ?_ hu1; refine hN1.below ?_; (with_reducible first|exact below_drew' _|exact Below.refl _ _)))|skip); (first|(have hq2:Slot w1 w.heap.size 0:=(by refine Slot.upd ?_ hu1; refine hN2.below ?_; (with_reducible first|exact below_drew' _|exact Below.refl _ _)))|skip))
   | (go_simp; go_at_call 157; (with_reducible change Calls _ _ #[.pointer (some ⟨g1,0,none⟩)] _ _); refine (denom_new g1 x _ (hx.below (by repeat (with_reducible first|exact Below.refl _ _|apply below_drew|apply pw_below_drewN|apply below_alloc|refine bthen ?_ hb1))) hs (by omega)).mono ?_; rintro e w2 ⟨D2,rfl,hD2,hd2,hb2⟩; have hD2':w.heap.size<D2:=(by (try simp only [World.size_alloc,World.size_drew] at hD2); omega); have hs12:w1.heap.size≤w2.heap.size:=(by have h:=hb2.size; (try simp only [World.size_alloc,World.size_drew] at h); omega))
   | (go_simp; go_at_call 157; (with_reducible change Calls _ _ #[.pointer (some ⟨g2,0,none⟩)] _ _); refine (denom_new g2 y _ (hy.below (by repeat (with_reducible first|exact Below.refl _ _|apply below_drew|apply pw_below_drewN|apply below_alloc|refine bthen ?_ hb2|refine bthen ?_ hb1))) ht (by omega)).mono ?_; rintro e w3 ⟨D3,rfl,hD3,hd3,hb3⟩; have hs23:w2.heap.size≤w3.heap.size:=(by have h:=hb3.size; (try simp only [World.size_alloc,World.size_drew] at h); omega))
   | (go_simp; go_at_call 200; (with_reducible change Calls _ _ #[.pointer (some ⟨_,0,none⟩),.pointer (some ⟨D2,0,none⟩),.pointer (some ⟨D3,0,none⟩)] _ _); refine (mul_calls _ 0 D2 0 D3 0 (x.den:Int) (y.den:Int) _ (by first|exact hq1.below (by repeat (with_reducible first|exact Below.refl _ _|apply below_drew|apply pw_below_drewN|apply below_alloc|refine bthen ?_ hb3|refine bthen ?_ hb2))|exact hq2.below (by repeat (with_reducible first|exact Below.refl _ _|apply below_drew|apply pw_below_drewN|apply below_alloc|refine bthen ?_ hb3|refine bthen ?_ hb2))|exact (IntAt.new w1 105 (by decide)).slot.below (by repeat (with_reducible first|exact Below.refl _ _|apply below_drew|apply pw_below_drewN|apply below_alloc|refine bthen ?_ hb3|refine bthen ?_ hb2))|exact (IntAt.new w2 105 (by decide)).slot.below (by repeat (with_reducible first|exact Below.refl _ _|apply below_drew|apply pw_below_drewN|apply below_alloc|refine bthen ?_ hb3|refine bthen ?_ hb2))|exact (IntAt.new w3 105 (by decide)).slot.below (by repeat (with_reducible first|exact Below.refl _ _|apply below_drew|apply pw_below_drewN|apply below_alloc|refine bthen ?_ hb3|refine bthen ?_ hb2))) (hd2.below (by repeat (with_reducible first|exact Below.refl _ _|apply below_drew|apply pw_below_drewN|apply below_alloc|refine bthen ?_ hb3))) (hd3.below (by repeat (with_reducible first|exact Below.refl _ _|apply below_drew|apply pw_below_drewN|apply below_alloc))) (hs.2.mono hsn) (ht.2.mono htn) hn).mono ?_; rintro e w4 ⟨rfl,hq4,hu4⟩)
   | (go_simp; go_at_call 109; (with_reducible change Calls _ _ #[.pointer (some ⟨g,0,none⟩),.pointer (some ⟨_,0,none⟩),.pointer (some ⟨_,0,none⟩)] _ _); have hB4:Below w.heap.size w w4:=hu4.new (by repeat (with_reducible first|exact Below.refl _ _|apply below_drew|apply pw_below_drewN|apply below_alloc|refine bthen ?_ hb3|refine bthen ?_ hb2|refine bthen ?_ hb1)) (by omega); have hp4:=(hp1.below (by repeat (with_reducible first|exact Below.refl _ _|apply below_drew|apply pw_below_drewN|apply below_alloc|refine bthen ?_ hb3|refine bthen ?_ hb2))).upd hu4 (Or.inl (by omega)); refine (setFrac_calls g _ 0 _ 0 (x.num*y.num) ((x.den:Int)*y.den) _ (hz.below hB4) hp4 hq4 (den_mul_ne x y) (hs.1.mul ht.1) (hs.2.mul ht.2) hn).mono ?_; rintro e w5 ⟨rfl,hz5,hu5⟩)
   ))
 all_goals
  go_wp2
  go_ret
  exact ⟨rfl,hz5,hu5.lift hB4⟩
theorem rcmp_calls (g1 g2:Nat) (x y:Rat) (w:World) (hx:RatAt w g1 x) (hy:RatAt w g2 y) {n m:Nat} (hs:Bdr n x) (ht:Bdr m y) (hn:n+m≤big) :
  Calls Tryz.prog 120 #[.pointer (some ⟨g1,0,none⟩),.pointer (some ⟨g2,0,none⟩)] w fun e w'=>e = .returned (.int .i64 (x.num*y.den-y.num*x.den).sign)∧Below w.heap.size w w':=by
 have hu:=Tryz.underlying112
 have hu105:=Tryz.underlying105
 have hxl:=hx.lt
 have hyl:=hy.lt
 have hsn:n≤n+m:=by omega
 have htn:m≤n+m:=by omega
 go_enter Tryz.func120,Tryz.ntmps120
 go_wp2_with fail
 go_region_held3 (fun _=>True) (first|go_keep|trivial)
  ((first
   | (go_simp; go_at_call 157; (with_reducible change Calls _ _ #[.pointer (some ⟨g2,0,none⟩)] _ _); refine (denom_new g2 y _ (by repeat (with_reducible first|exact hy|refine RatAt.below ?_ (below_drew' _)|refine RatAt.below ?_ (below_alloc (Below.refl _ _) _))) ht (by omega)).mono ?_; rintro e w1 ⟨D1,rfl,hD1,hd1,hb1⟩; have hl1:=hd1.lt; have hs1:=hb1.size; (try simp only [World.size_alloc,World.size_drew] at hs1); (try simp only [World.size_alloc,World.size_drew] at hD1))
   | (go_simp; go_at_call 200; (with_reducible change Calls _ _ #[.pointer (some ⟨_,0,none⟩),.pointer (some ⟨g1,0,none⟩),.pointer (some ⟨D1,0,none⟩)] _ _); refine (mul_calls _ 0 g1 0 D1 0 x.num (y.den:Int) _ (by repeat (with_reducible first|exact (IntAt.new _ 105 (by decide)).slot|exact slot1 _|exact slot2 _|refine Slot.below ?_ (below_drew' _)|refine Slot.below ?_ (below_alloc (Below.refl _ _) _)|refine Slot.below ?_ hb1)) ((by repeat (with_reducible first|exact hx|refine RatAt.below ?_ (below_drew' _)|refine RatAt.below ?_ (below_alloc (Below.refl _ _) _)|refine RatAt.below ?_ hb1)):RatAt _ g1 x).num (by repeat (with_reducible first|exact hd1|refine IntAt.below ?_ (below_drew' _)|refine IntAt.below ?_ (below_alloc (Below.refl _ _) _)|refine IntAt.below ?_ hb1)) (hs.1.mono hsn) (ht.2.mono htn) hn).mono ?_; rintro e w2 ⟨rfl,hp2,hu2⟩; have hl2:=hp2.lt; have hs2:=hu2.size; (try simp only [World.size_alloc,World.size_drew] at hs2))
   | (go_simp; go_at_call 157; (with_reducible change Calls _ _ #[.pointer (some ⟨g1,0,none⟩)] _ _); refine (denom_new g1 x _ (by repeat (with_reducible first|exact hx|refine RatAt.below ?_ (below_drew' _)|refine RatAt.below ?_ (below_alloc (Below.refl _ _) _)|refine RatAt.upd ?_ hu2 (by omega)|refine RatAt.below ?_ hb1)) hs (by omega)).mono ?_; rintro e w3 ⟨D3,rfl,hD3,hd3,hb3⟩; have hl3:=hd3.lt; have hs3:=hb3.size; (try simp only [World.size_alloc,World.size_drew] at hs3); (try simp only [World.size_alloc,World.size_drew] at hD3))
   | (go_simp; go_at_call 200; (with_reducible change Calls _ _ #[.pointer (some ⟨_,0,none⟩),.pointer (some ⟨g2,0,none⟩),.pointer (some ⟨D3,0,none⟩)] _ _); refine (mul_calls _ 0 g2 0 D3 0 y.num (x.den:Int) _ (by repeat (with_reducible first|exact (IntAt.new _ 105 (by decide)).slot|exact slot1 _|exact slot2 _|refine Slot.below ?_ (below_drew' _)|refine Slot.below ?_ (below_alloc (Below.refl _ _) _)|refine Slot.upd ?_ hu2|refine Slot.below ?_ hb3|refine Slot.below ?_ hb1)) ((by repeat (with_reducible first|exact hy|refine RatAt.below ?_ (below_drew' _)|refine RatAt.below ?_ (below_alloc (Below.refl _ _) _)|refine RatAt.upd ?_ hu2 (by omega)|refine RatAt.below ?_ hb3|refine RatAt.below ?_ hb1)):RatAt _ g2 y).num (by repeat (with_reducible first|exact hd3|refine IntAt.below ?_ (below_drew' _)|refine IntAt.below ?_ (below_alloc (Below.refl _ _) _)|refine IntAt.upd ?_ hu2 (Or.inl (by omega))|refine IntAt.below ?_ hb3)) (ht.1.mono htn) (hs.2.mono hsn) hn).mono ?_; rintro e w4 ⟨rfl,hq4,hu4⟩; have hl4:=hq4.lt; have hs4:=hu4.size; (try simp only [World.size_alloc,World.size_drew] at hs4))
   | (go_simp; go_at_call 185; (with_reducible change Calls _ _ #[.pointer (some ⟨_,0,none⟩),.pointer (some ⟨_,0,none⟩)] _ _); refine (cmp_calls _ 0 _ 0 (x.num*y.den) (y.num*x.den) _ (by repeat (with_reducible first|exact hp2|refine IntAt.below ?_ (below_drew' _)|refine IntAt.below ?_ (below_alloc (Below.refl _ _) _)|refine IntAt.upd ?_ hu4 (Or.inl (by omega))|refine IntAt.below ?_ hb3)) hq4).mono ?_; rintro e w5 ⟨rfl,hb5⟩)
   ))
 all_goals
  have hB4:Below w.heap.size w w4:=(by repeat (with_reducible first|exact Below.refl _ _|apply below_drew|apply pw_below_drewN|apply below_alloc|refine bthen ?_ hb3|refine bthen ?_ hb1|refine Upd.new hu4 ?_ (by omega)|refine Upd.new hu2 ?_ (by omega)))
  go_wp2
  go_ret
  exact ⟨rfl,bthen hB4 hb5⟩
theorem radd_calls (g g1 g2:Nat) (x y:Rat) (w:World) (hz:Slot w g 2) (hx:RatAt w g1 x) (hy:RatAt w g2 y) {n m:Nat} (hs:Bdr n x) (ht:Bdr m y) (hn:n+m+1≤big) :
  Calls Tryz.prog 115 #[.pointer (some ⟨g,0,none⟩),.pointer (some ⟨g1,0,none⟩),.pointer (some ⟨g2,0,none⟩)] w fun e w'=>e = .returned (.pointer (some ⟨g,0,none⟩))∧RatAt w' g (x+y)∧Upd w w' g 0 4:=by
 have hu:=Tryz.underlying112
 have hu105:=Tryz.underlying105
 rw [add_divInt]
 have hxl:=hx.lt
 have hyl:=hy.lt
 have hsn:n≤n+m:=by omega
 have htn:m≤n+m:=by omega
 have hnm:n+m≤big:=by omega
 go_enter Tryz.func115,Tryz.ntmps115
 go_wp2_with fail
 refine (denom_new g1 x _ hx hs (by omega)).mono ?_
 rintro e w1 ⟨P,rfl,hP,hp1,hb1⟩
 have hs1:=hb1.size
 have hlp:=hp1.lt
 go_wp2_with fail
 refine (denom_new g2 y _ (hy.below hb1) ht (by omega)).mono ?_
 rintro e w2 ⟨Q,rfl,hQ,hq2,hb2⟩
 have hs2:=hb2.size
 have hlq:=hq2.lt
 go_wp2_with fail
 go_region_held3 (fun _=>True) (first|go_keep|trivial)
  ((first
   | (go_simp; go_at_call 200; (with_reducible change Calls _ _ #[.pointer (some ⟨_,0,none⟩),.pointer (some ⟨g1,0,none⟩),.pointer (some ⟨Q,0,none⟩)] _ _); refine (mul_calls _ 0 g1 0 Q 0 x.num (y.den:Int) _ (by repeat (with_reducible first|exact (IntAt.new _ 105 (by decide)).slot|exact slot1 _|exact slot2 _|refine Slot.below ?_ (below_drew' _)|refine Slot.below ?_ (below_alloc (Below.refl _ _) _)|refine Slot.below ?_ hb1|refine Slot.below ?_ hb2)) ((by repeat (with_reducible first|exact hx|refine RatAt.below ?_ (below_drew' _)|refine RatAt.below ?_ (below_alloc (Below.refl _ _) _)|refine RatAt.below ?_ hb1|refine RatAt.below ?_ hb2)):RatAt _ g1 x).num (by repeat (with_reducible first|exact hq2|refine IntAt.below ?_ (below_drew' _)|refine IntAt.below ?_ (below_alloc (Below.refl _ _) _))) (hs.1.mono hsn) (ht.2.mono htn) hnm).mono ?_; rintro e w3 ⟨rfl,hm3,hu3⟩; have hl3:=hm3.lt; have hs3:=hu3.size; (try simp only [World.size_alloc,World.size_drew] at hs3))
   | (go_simp; go_at_call 200; (with_reducible change Calls _ _ #[.pointer (some ⟨_,0,none⟩),.pointer (some ⟨g2,0,none⟩),.pointer (some ⟨P,0,none⟩)] _ _); refine (mul_calls _ 0 g2 0 P 0 y.num (x.den:Int) _ (by repeat (with_reducible first|exact (IntAt.new _ 105 (by decide)).slot|exact slot1 _|exact slot2 _|refine Slot.below ?_ (below_drew' _)|refine Slot.below ?_ (below_alloc (Below.refl _ _) _)|refine Slot.upd ?_ hu3|refine Slot.below ?_ hb1|refine Slot.below ?_ hb2)) ((by repeat (with_reducible first|exact hy|refine RatAt.below ?_ (below_drew' _)|refine RatAt.below ?_ (below_alloc (Below.refl _ _) _)|refine RatAt.upd ?_ hu3 (by omega)|refine RatAt.below ?_ hb1|refine RatAt.below ?_ hb2)):RatAt _ g2 y).num (by repeat (with_reducible first|exact hp1|refine IntAt.below ?_ (below_drew' _)|refine IntAt.below ?_ (below_alloc (Below.refl _ _) _)|refine IntAt.upd ?_ hu3 (Or.inl (by omega))|refine IntAt.below ?_ hb2)) (ht.1.mono htn) (hs.2.mono hsn) hnm).mono ?_; rintro e w4 ⟨rfl,hm4,hu4⟩; have hl4:=hm4.lt; have hs4:=hu4.size; (try simp only [World.size_alloc,World.size_drew] at hs4))
   | (go_simp; go_at_call 199; (with_reducible change Calls _ _ #[.pointer (some ⟨_,0,none⟩),.pointer (some ⟨_,0,none⟩),.pointer (some ⟨_,0,none⟩)] _ _); refine (add_calls _ 0 _ 0 _ 0 (x.num*y.den) (y.num*x.den) _ (by repeat (with_reducible first|exact (IntAt.new _ 105 (by decide)).slot|exact slot1 _|exact slot2 _|refine Slot.below ?_ (below_drew' _)|refine Slot.below ?_ (below_alloc (Below.refl _ _) _)|refine Slot.upd ?_ hu4|refine Slot.upd ?_ hu3|refine Slot.below ?_ hb1|refine Slot.below ?_ hb2)) (by repeat (with_reducible first|exact hm3|refine IntAt.below ?_ (below_drew' _)|refine IntAt.below ?_ (below_alloc (Below.refl _ _) _)|refine IntAt.upd ?_ hu4 (Or.inl (by omega)))) (by repeat (with_reducible first|exact hm4|refine IntAt.below ?_ (below_drew' _)|refine IntAt.below ?_ (below_alloc (Below.refl _ _) _))) (hs.1.mul ht.2) (by have h:=ht.1.mul hs.2; rwa [Nat.add_comm m n] at h) hnm (Or.inl (by omega)) (Or.inl (by omega))).mono ?_; rintro e w5 ⟨rfl,hm5,hu5⟩; have hl5:=hm5.lt; have hs5:=hu5.size; (try simp only [World.size_alloc,World.size_drew] at hs5))
   ))
 all_goals
  have hp5:IntAt w5 P 0 (x.den:Int):=(by repeat (with_reducible first|exact hp1|refine IntAt.below ?_ (below_drew' _)|refine IntAt.below ?_ (below_alloc (Below.refl _ _) _)|refine IntAt.upd ?_ hu5 (Or.inl (by omega))|refine IntAt.upd ?_ hu4 (Or.inl (by omega))|refine IntAt.upd ?_ hu3 (Or.inl (by omega))|refine IntAt.below ?_ hb2))
  have hq5:IntAt w5 Q 0 (y.den:Int):=(by repeat (with_reducible first|exact hq2|refine IntAt.below ?_ (below_drew' _)|refine IntAt.below ?_ (below_alloc (Below.refl _ _) _)|refine IntAt.upd ?_ hu5 (Or.inl (by omega))|refine IntAt.upd ?_ hu4 (Or.inl (by omega))|refine IntAt.upd ?_ hu3 (Or.inl (by omega))))
  have hz5:Slot w5 g 2:=(by repeat (with_reducible first|exact hz|refine Slot.below ?_ (below_drew' _)|refine Slot.below ?_ (below_alloc (Below.refl _ _) _)|refine Slot.upd ?_ hu5|refine Slot.upd ?_ hu4|refine Slot.upd ?_ hu3|refine Slot.below ?_ hb2|refine Slot.below ?_ hb1))
  have hB5:Below w.heap.size w w5:=(by repeat (with_reducible first|exact Below.refl _ _|apply below_drew|apply pw_below_drewN|apply below_alloc|refine bthen ?_ hb2|refine bthen ?_ hb1|refine Upd.new hu5 ?_ (by omega)|refine Upd.new hu4 ?_ (by omega)|refine Upd.new hu3 ?_ (by omega)))
  have hbn:=(hs.1.mul ht.2).add (by have h:=ht.1.mul hs.2; rwa [Nat.add_comm m n] at h)
  have hbd:=(hs.2.mul ht.2).mono (show n+m≤n+m+1 by omega)
  have HBN:=Lib.hid (And.intro hbn hbd)
  have HM5:=Lib.hid hm5
  clear hbn hbd hm3 hu3 hm4 hu4 hu5 hb1 hb2 hp1 hq2 hm5
  go_wp2_with fail
  refine (mul_calls P 0 P 0 Q 0 (x.den:Int) (y.den:Int) _ hp5.slot hp5 hq5 (hs.2.mono hsn) (ht.2.mono htn) hnm).mono ?_
  rintro e w6 ⟨rfl,hp6,hu6⟩
  have hn6:=HM5.out.upd hu6 (Or.inl (by omega))
  go_wp2_with fail
  refine (setFrac_calls g _ 0 P 0 (x.num*y.den+y.num*x.den) ((x.den:Int)*y.den) _ (hz5.upd hu6) hn6 hp6 (den_mul_ne x y) HBN.out.1 HBN.out.2 hn).mono ?_
  rintro e w7 ⟨rfl,hz7,hu7⟩
  have hB6:=hu6.new hB5 (by omega)
  go_wp2
  go_ret
  exact ⟨rfl,hz7,hu7.lift hB6⟩
theorem put_rat {w:World} {g c c' k k':Nat} {A A':Option Addr} {neg neg':Bool} {ws ws':List Int} {x:Rat} (hz:Slot w g 2) (h1:WAt w A c ws) (e1:ws.length=k) (n1:Norm neg ws x.num) (h2:WAt w A' c' ws') (e2:ws'.length=k') (n2:Norm neg' ws' (x.den:Int)) :
  RatAt ((((w.setCell ⟨g,0,none⟩ (.bool neg)).setCell ⟨g,1,none⟩ (.slice A k c)).setCell ⟨g,2,none⟩ (.bool neg')).setCell ⟨g,3,none⟩ (.slice A' k' c')) g x∧Upd w ((((w.setCell ⟨g,0,none⟩ (.bool neg)).setCell ⟨g,1,none⟩ (.slice A k c)).setCell ⟨g,2,none⟩ (.bool neg')).setCell ⟨g,3,none⟩ (.slice A' k' c')) g 0 4:=by
 obtain ⟨p1,u1⟩:=put_at hz.lo h1 e1 n1
 have hz1:Slot ((w.setCell ⟨g,0,none⟩ (.bool neg)).setCell ⟨g,0+1,none⟩ (.slice A k c)) g 2:=hz.upd u1
 obtain ⟨p2,u2⟩:=put_at hz1 (h2.upd u1) e2 n2
 exact ⟨⟨p1.upd u2 (Or.inr (Or.inl (by omega))),_,p2,Or.inl rfl⟩,(u1.mono (Nat.le_refl _) (by omega)).trans (u2.mono (by omega) (by omega))⟩
theorem cell_set_ne {w:World} {g o b j:Nat} {u v:Value} (h:w.cell? ⟨b,j,none⟩=some v) (hne:b≠g):(w.setCell ⟨g,o,none⟩ u).cell? ⟨b,j,none⟩=some v:=
 (World.cell?_of_block (Below.heap_setCell w ⟨g,o,none⟩ u b hne)).trans h
theorem cell_drewk {w:World} {a:Addr} {v:Value} (h:w.cell? a=some v):w.drew.cell? a=some v:=h
theorem rsetInt_calls (g b o:Nat) (x:Int) (w:World) (hz:Slot w g 2) (hx:IntAt w b o x) {n:Nat} (hs:Bd n x) (hn:n≤big) :
  Calls Tryz.prog 125 #[.pointer (some ⟨g,0,none⟩),.pointer (some ⟨b,o,none⟩)] w fun e w'=>e = .returned (.pointer (some ⟨g,0,none⟩))∧RatAt w' g (x:Rat)∧Upd w w' g 0 4:=by
 have hu:=Tryz.underlying112
 have hu105:=Tryz.underlying105
 go_enter Tryz.func125,Tryz.ntmps125
 have hlt:=hx.lt
 have hltg:=hz.lt
 have hnew:=(IntAt.new w 105 (by decide)).slot
 have hPg:w.heap.size≠g:=by omega
 have hba:=below_alloc (Below.refl w.heap.size w) (.cells #[.bool false,.slice none 0 0] 105)
 go_wp2_with fail
 go_region_with
  ((first
   | (go_simp; go_at_call 202; refine (set_calls w.heap.size 0 b o x _ (by repeat (with_reducible first|exact hnew|refine Slot.below ?_ (below_drew' _))) (by repeat (with_reducible first|exact hx|refine IntAt.below ?_ (below_drew' _)|refine IntAt.below ?_ (below_alloc (Below.refl _ _) _))) (Or.inl (by omega)) hs hn).mono ?_; rintro e w1 ⟨rfl,hp1,hu1⟩; have hb1:Below w.heap.size w w1:=hu1.new (by repeat (with_reducible first|exact Below.refl _ _|apply below_drew|apply below_alloc)) (Nat.le_refl _); have hpl:=hp1.lt; obtain ⟨np,Ap,cp,ps,p1,p2,p3,p4⟩:=hp1.out; have p2':w1.cell? ⟨w.heap.size,1,none⟩=some (.slice Ap ps.length cp):=p2; clear p2)
   | (go_simp; go_at_call 112; refine (newInt_new 1 _ (by decide) (by decide)).mono ?_; rintro e w2 ⟨Q,rfl,hQ,hq2,hb2⟩; have hQg:Q≠g:=(by have h:=hb1.size; (try simp only [World.size_drew] at hQ); omega); have hb12:Below w1.heap.size w1 w2:=(by first|exact hb2|exact bthen (below_drew' _) hb2|exact bthen (below_drew' _) (bthen (below_drew' _) hb2)); have r1:=bcell hb12 p1; have r2:=bcell hb12 p2'; have hB2:=bthen hb1 hb12; have hz2:=hz.below hB2; obtain ⟨⟨v0,hc0⟩,v1,hc1⟩:=hz2.lo.cells; obtain ⟨⟨v2,hc2⟩,v3,hc3⟩:=hz2.cells; have hc1':w2.cell? ⟨g,1,none⟩=some v1:=hc1; have hc3':w2.cell? ⟨g,3,none⟩=some v3:=hc3; have hf0:=hz2.frozen 0; have hf1:=hz2.frozen 1; have hf2:=hz2.frozen 2; have hf3:=hz2.frozen 3; clear hc1 hc3; obtain ⟨nq,Aq,cq,qs,q1,q2,q3,q4⟩:=hq2.out; have q2':w2.cell? ⟨Q,1,none⟩=some (.slice Aq qs.length cq):=q2; clear q2)
   ))
 all_goals
  have hpt:=put_rat (x:=(x:Rat)) hz2 (p3.below hb12) rfl (show Norm np ps ((x:Rat).num) from p4) q3 rfl (show Norm nq qs (((x:Rat).den:Nat):Int) from q4)
  have HPT:=Lib.hid hpt
  clear hpt
  go_wp2
  go_ret
  exact ⟨rfl,HPT.out.1,HPT.out.2.lift hB2⟩
theorem rset_calls (g g1:Nat) (x:Rat) (w:World) (hz:Slot w g 2) (hx:RatAt w g1 x) {n:Nat} (hs:Bdr n x) (hn:n≤big) :
  Calls Tryz.prog 139 #[.pointer (some ⟨g,0,none⟩),.pointer (some ⟨g1,0,none⟩)] w fun e w'=>e = .returned (.pointer (some ⟨g,0,none⟩))∧RatAt w' g x∧Upd w w' g 0 4:=by
 have hu:=Tryz.underlying112
 have hu105:=Tryz.underlying105
 have hlt:=hx.lt
 go_enter Tryz.func139,Tryz.ntmps139
 go_wp2_with fail
 refine (num_new g1 x _ hx hs hn).mono ?_
 rintro e w1 ⟨P,rfl,hP,hp1,hb1⟩
 have hs1:=hb1.size
 have hlp:=hp1.lt
 go_wp2_with fail
 refine (denom_new g1 x _ (hx.below hb1) hs hn).mono ?_
 rintro e w2 ⟨Q,rfl,hQ,hq2,hb2⟩
 have hs2:=hb2.size
 have hlq:=hq2.lt
 have hp2:=hp1.below hb2
 obtain ⟨np,Ap,cp,ps,p1,p2,p3,p4⟩:=hp2.out
 obtain ⟨nq,Aq,cq,qs,q1,q2,q3,q4⟩:=hq2.out
 have hz2:=hz.below (bthen hb1 hb2)
 have hpt:=put_rat hz2 p3 rfl p4 q3 rfl q4
 have HPT:=Lib.hid hpt
 obtain ⟨⟨v0,hc0⟩,v1,hc1⟩:=hz2.lo.cells
 obtain ⟨⟨v2,hc2⟩,v3,hc3⟩:=hz2.cells
 have hc1':w2.cell? ⟨g,1,none⟩=some v1:=hc1
 have hc3':w2.cell? ⟨g,3,none⟩=some v3:=hc3
 have hf0:=hz2.frozen 0
 have hf1:=hz2.frozen 1
 have hf2:=hz2.frozen 2
 have hf3:=hz2.frozen 3
 have HB:=Lib.hid (bthen hb1 hb2)
 clear hpt p3 p4 q3 q4 hc1 hc3 hz2 hp2 hq2 hp1
 have hltg:=hz.lt
 have hPg:P≠g:=by omega
 have hQg:Q≠g:=by omega
 have q1':w2.cell? ⟨Q,1,none⟩=some (.slice Aq qs.length cq):=q2
 have p1':w2.cell? ⟨P,1,none⟩=some (.slice Ap ps.length cp):=p2
 clear q2 p2
 go_wp2_with fail
 go_region_held3 (fun w'=>w'.cell? ⟨P,0,none⟩=some (.bool np)∧w'.cell? ⟨P,1,none⟩=some (.slice Ap ps.length cp)∧w'.cell? ⟨Q,0,none⟩=some (.bool nq)∧w'.cell? ⟨Q,1,none⟩=some (.slice Aq qs.length cq)) (first|exact ⟨p1,p1',q1,q1'⟩|(refine ⟨?_,?_,?_,?_⟩<;>(repeat (with_reducible first|assumption|refine cell_drewk ?_|refine cell_set_ne ?_ hPg|refine cell_set_ne ?_ hQg))))
  ((first
   | fail))
 all_goals
  go_wp2
  go_ret
  exact ⟨rfl,HPT.out.1.below (below_drew' _),(HPT.out.2.trans (Upd.of_below (below_drew' _) _ _ _)).lift HB.out⟩
theorem set_neg {w:World} {g c:Nat} {A:Option Addr} {neg neg':Bool} {ws:List Int} {x y:Rat} (h:RatAt w g x) (h1:w.cell? ⟨g,0,none⟩=some (.bool neg)) (h2:w.cell? ⟨g,0+1,none⟩=some (.slice A ws.length c)) (h3:WAt w A c ws) (hn:Norm neg' ws y.num) (hd:y.den=x.den) :
  RatAt (w.setCell ⟨g,0,none⟩ (.bool neg')) g y∧Upd w (w.setCell ⟨g,0,none⟩ (.bool neg')) g 0 4:=by
 have hs:=h.slot
 obtain ⟨cs,t,hb,hsz,ht⟩:=h.slot.lo
 have u:=Upd.set w hb ht (Nat.le_refl 0) (show 0<1 by decide) (.bool neg')
 have hb2:=blk_set hb 0 (.bool neg')
 obtain ⟨d,hd1,hd2⟩:=h.den
 refine ⟨⟨⟨h.slot.lo.upd u,neg',A,c,ws,?_,?_,h3.upd u,hn⟩,d,hd1.upd u (Or.inr (Or.inr (by omega))),?_⟩,u.mono (Nat.le_refl _) (by omega)⟩
 ·rw [blk_cell hb2,Array.getElem?_setIfInBounds_self_of_lt (by omega)]
 ·rw [←h2,blk_cell hb2,blk_cell hb,Array.getElem?_setIfInBounds_ne (by omega)]
 ·rw [hd]; exact hd2
theorem abs_num (x:Rat):(Rat.abs x).num=(x.num.natAbs:Int):=by
 unfold Rat.abs
 split
 ·rename_i h
  have:=Rat.num_nonneg.2 h
  omega
 ·rename_i h
  have:¬ 0≤x.num:=fun e=>h (Rat.num_nonneg.1 e)
  rw [Rat.neg_num]; omega
theorem abs_den (x:Rat):(Rat.abs x).den=x.den:=by
 unfold Rat.abs
 split
 ·rfl
 ·exact Rat.neg_den x
theorem rneg_calls (g g1:Nat) (x:Rat) (w:World) (hz:Slot w g 2) (hx:RatAt w g1 x) {n:Nat} (hs:Bdr n x) (hn:n≤big) :
  Calls Tryz.prog 141 #[.pointer (some ⟨g,0,none⟩),.pointer (some ⟨g1,0,none⟩)] w fun e w'=>e = .returned (.pointer (some ⟨g,0,none⟩))∧RatAt w' g (-x)∧Upd w w' g 0 4:=by
 have hu:=Tryz.underlying112
 have hu105:=Tryz.underlying105
 go_enter Tryz.func141,Tryz.ntmps141
 go_wp2_with fail
 refine (rset_calls g g1 x _ hz hx hs hn).mono ?_
 rintro e w1 ⟨rfl,hz1,hu1⟩
 obtain ⟨neg,A,c,ws,h1,h2,h3,h4⟩:=hz1.num.out
 have hf:=hz1.slot.frozen 0
 cases neg
 ·by_cases hx0:x.num=0
  ·have hn':Norm false ws ((-x).num):=by rw [Rat.neg_num,hx0]; rw [hx0] at h4; exact h4
   have HP:=Lib.hid (set_neg hz1 h1 h2 h3 hn' (Rat.neg_den x))
   have hsg:x.num.sign=0:=by rw [hx0]; rfl
   clear h4 hn' h2 hx0
   go_wp2_with fail
   refine (sign_calls g 0 x.num _ hz1.num).mono ?_
   rintro e w2 ⟨rfl,rfl⟩
   rw [hsg]
   clear hsg
   go_wp2
   go_ret
   exact ⟨rfl,HP.out.1,hu1.trans HP.out.2⟩
  ·have hn':Norm true ws ((-x).num):=⟨h4.wd,h4.top,fun e=>absurd (h4.nil_iff.1 e) hx0,by rw [Rat.neg_num]; have:=h4.eq; simp at this ⊢; omega⟩
   have HP:=Lib.hid (set_neg hz1 h1 h2 h3 hn' (Rat.neg_den x))
   have HSB:=Lib.hid (show (x.num.sign != 0)=true from bne_iff_ne.2 (fun h=>hx0 (Int.sign_eq_zero_iff_zero.1 h)))
   clear h4 hn' h2 hx0
   go_wp2_with fail
   refine (sign_calls g 0 x.num _ hz1.num).mono ?_
   rintro e w2 ⟨rfl,rfl⟩
   go_wp2
   go_ret
   refine ⟨rfl,?_⟩
   rw [HSB.out]
   exact ⟨HP.out.1,hu1.trans HP.out.2⟩
 ·have hn':Norm false ws ((-x).num):=⟨h4.wd,h4.top,fun _=>rfl,by rw [Rat.neg_num]; have:=h4.eq; simp at this ⊢; omega⟩
  have HP:=Lib.hid (set_neg hz1 h1 h2 h3 hn' (Rat.neg_den x))
  clear h4 hn' h2
  go_wp2
  go_ret
  exact ⟨rfl,HP.out.1,hu1.trans HP.out.2⟩
theorem rabs_calls (g g1:Nat) (x:Rat) (w:World) (hz:Slot w g 2) (hx:RatAt w g1 x) {n:Nat} (hs:Bdr n x) (hn:n≤big) :
  Calls Tryz.prog 91 #[.pointer (some ⟨g,0,none⟩),.pointer (some ⟨g1,0,none⟩)] w fun e w'=>e = .returned (.pointer (some ⟨g,0,none⟩))∧RatAt w' g x.abs∧Upd w w' g 0 4:=by
 have hu:=Tryz.underlying112
 have hu105:=Tryz.underlying105
 go_enter Tryz.func91,Tryz.ntmps91
 go_wp2_with fail
 refine (rset_calls g g1 x _ hz hx hs hn).mono ?_
 rintro e w1 ⟨rfl,hz1,hu1⟩
 obtain ⟨neg,A,c,ws,h1,h2,h3,h4⟩:=hz1.num.out
 have hf:=hz1.slot.frozen 0
 have hn':Norm false ws ((Rat.abs x).num):=⟨h4.wd,h4.top,fun _=>rfl,by rw [abs_num,h4.val_eq]; simp⟩
 have HP:=Lib.hid (set_neg hz1 h1 h2 h3 hn' (abs_den x))
 clear h4 hn' h2
 go_wp2
 go_ret
 exact ⟨rfl,HP.out.1,hu1.trans HP.out.2⟩
theorem rsub_calls (g g1 g2:Nat) (x y:Rat) (w:World) (hz:Slot w g 2) (hx:RatAt w g1 x) (hy:RatAt w g2 y) {n m:Nat} (hs:Bdr n x) (ht:Bdr m y) (hn:n+m+1≤big) :
  Calls Tryz.prog 124 #[.pointer (some ⟨g,0,none⟩),.pointer (some ⟨g1,0,none⟩),.pointer (some ⟨g2,0,none⟩)] w fun e w'=>e = .returned (.pointer (some ⟨g,0,none⟩))∧RatAt w' g (x-y)∧Upd w w' g 0 4:=by
 have hu:=Tryz.underlying112
 have hu105:=Tryz.underlying105
 have hnew:=RatAt.new w 112 (by decide)
 have hba:=below_alloc (Below.refl w.heap.size w) (.cells #[.bool false,.slice none 0 0,.bool false,.slice none 0 0] 112)
 rw [Rat.sub_eq_add_neg]
 go_enter Tryz.func124,Tryz.ntmps124
 go_wp2_with fail
 refine (rneg_calls w.heap.size g2 y _ hnew.slot (hy.below hba) ht (by omega)).mono ?_
 rintro e w1 ⟨rfl,hz1,hu1⟩
 have hb1:=hu1.new hba (Nat.le_refl _)
 go_wp2_with fail
 refine (radd_calls g g1 w.heap.size x (-y) _ (hz.below hb1) (hx.below hb1) hz1 hs ht.neg hn).mono ?_
 rintro e w2 ⟨rfl,hz2,hu2⟩
 go_wp2
 go_ret
 exact ⟨rfl,hz2,hu2.lift hb1⟩
end Go.Proofs.YtglaeambknhjlaaGreatDoor.P
end
section
namespace Go.Proofs.YtglaeambknhjlaaGreatDoor.P
open Go.RowKit Go.Proofs.YtglaeambknhjlaaGreatDoorW.PrintWords Go.Proofs.YtglaeambknhjlaaGreatDoorW.PrintLast Go.Proofs.YtglaeambknhjlaaGreatDoorW.PrintMore
attribute [local go_sem] max2_int min2_int max_two min_two max_three min_three max_four min_four
def cubitref01_trim.l0:Nat→List Int→Option (List Int)
 | 0,_=>none
 | k+1,x0=>if (x0.length:Int)>0 then (if 0≤(wrap64 ((x0.length:Int)-1)) then (if (wrap64 ((x0.length:Int)-1))<(x0.length:Int) then (if (rd x0 (wrap64 ((x0.length:Int)-1)))=0 then (if (wrap64 ((x0.length:Int)-1))≤(x0.length:Int) then (cubitref01_trim.l0 k (x0.take ((wrap64 ((x0.length:Int)-1)):Int).toNat)) else (none)) else (some x0)) else (none)) else (none)) else (some x0)
def cubitref01_trim.f (k:Nat) (l0:List Int):Option (List Int):=cubitref01_trim.l0 k l0
mutual
def cubitref01_limbs.l0:Nat→ByteArray→List Int→Int→Option (List Int)
 | 0,_,_,_=>none
 | k+1,x0,x3,x4=>if x4>0 then (if (wrap64 (x4-4))<0 then (cubitref01_limbs.j1 k x0 x3 x4 0) else (cubitref01_limbs.j1 k x0 x3 x4 (wrap64 (x4-4)))) else ((cubitref01_trim.f k x3).bind fun t226=>(some t226))
def cubitref01_limbs.j1:Nat→ByteArray→List Int→Int→Int→Option (List Int)
 | 0,_,_,_,_=>none
 | k+1,x0,x3,x4,x5=>cubitref01_limbs.l1 k x0 x3 x4 0 x5
def cubitref01_limbs.l1:Nat→ByteArray→List Int→Int→Int→Int→Option (List Int)
 | 0,_,_,_,_,_=>none
 | k+1,x0,x3,x4,x6,x7=>if x7<x4 then (if 0≤x7 then (if x7<(x0.size:Int) then (cubitref01_limbs.l1 k x0 x3 x4 (wrap64 ((wrap64 (10*x6))+(((bt x0 x7)-48)%256))) (wrap64 (x7+1))) else (none)) else (none)) else (if x3.length<17592186044416 then (cubitref01_limbs.l0 k x0 (x3 ++ [x6]) (wrap64 (x4-4))) else (none))
end
def cubitref01_limbs.f (k:Nat) (a0:ByteArray):Option (List Int):=cubitref01_limbs.l0 k a0 ([]:List Int) (a0.size:Int)
end Go.Proofs.YtglaeambknhjlaaGreatDoor.P
end
section
namespace Go.Proofs.YtglaeambknhjlaaGreatDoor.P
open Go.RowKit Go.Proofs.YtglaeambknhjlaaGreatDoorW.PrintWords
def lv:List Int→Int
 | []=>0
 | x :: xs=>x+10000*lv xs
def Ld (ws:List Int):Prop:=∀ u∈ws,0≤u∧u<10000
theorem Ld.nil:Ld []:=fun u h=>by cases h
theorem Ld.cons {x:Int} {xs:List Int} (h0:0≤x) (h1:x<10000) (h:Ld xs):Ld (x :: xs):=fun u hu=>by
 rcases List.mem_cons.1 hu with rfl|hu
 ·exact ⟨h0,h1⟩
 ·exact h u hu
theorem Ld.tail {x:Int} {xs:List Int} (h:Ld (x :: xs)):Ld xs:=fun u hu=>h u (List.mem_cons_of_mem _ hu)
theorem Ld.head {x:Int} {xs:List Int} (h:Ld (x :: xs)):0≤x∧x<10000:=h x List.mem_cons_self
theorem Ld.append {xs ys:List Int} (h:Ld xs) (k:Ld ys):Ld (xs++ys):=fun u hu=>(List.mem_append.1 hu).elim (h u) (k u)
theorem Ld.take {xs:List Int} (h:Ld xs) (n:Nat):Ld (xs.take n):=fun u hu=>h u (List.mem_of_mem_take hu)
theorem Ld.drop {xs:List Int} (h:Ld xs) (n:Nat):Ld (xs.drop n):=fun u hu=>h u (List.mem_of_mem_drop hu)
theorem Ld.set {xs:List Int} (h:Ld xs) (n:Nat) {v:Int} (h0:0≤v) (h1:v<10000):Ld (xs.set n v):=fun u hu=>by
 rcases List.mem_or_eq_of_mem_set hu with hu|rfl
 ·exact h u hu
 ·exact ⟨h0,h1⟩
theorem Ld.rd {xs:List Int} (h:Ld xs) (i:Int):0≤rd xs i∧rd xs i<10000:=by
 unfold Go.Proofs.YtglaeambknhjlaaGreatDoorW.PrintWords.rd
 rw [List.getD_eq_getElem?_getD]
 rcases Nat.lt_or_ge i.toNat xs.length with hi|hi
 ·rw [List.getElem?_eq_getElem hi]; exact h _ (List.getElem_mem hi)
 ·rw [List.getElem?_eq_none hi]; exact ⟨by decide,by decide⟩
theorem lv_nonneg {xs:List Int} (h:Ld xs):0≤lv xs:=by
 induction xs with
 | nil=>exact Int.le_refl _
 | cons x xs ih=>have:=ih h.tail; have:=h.head; simp only [lv]; omega
theorem lv_append (xs ys:List Int):lv (xs++ys)=lv xs+10000^xs.length*lv ys:=by
 induction xs with
 | nil=>simp [lv]
 | cons x xs ih=>simp only [List.cons_append,lv,ih,List.length_cons,Int.pow_succ]; rw [Int.mul_add,Int.mul_comm (10000^xs.length) 10000,Int.mul_assoc]; omega
theorem lv_lt {xs:List Int} (h:Ld xs):lv xs<10000^xs.length:=by
 induction xs with
 | nil=>simp [lv]
 | cons x xs ih=>have:=ih h.tail; have:=h.head; simp only [lv,List.length_cons,Int.pow_succ]; omega
theorem lv_take_drop (xs:List Int) (n:Nat) (h:n≤xs.length):lv xs=lv (xs.take n)+10000^n*lv (xs.drop n):=by
 have:=lv_append (xs.take n) (xs.drop n)
 rwa [List.take_append_drop,List.length_take,Nat.min_eq_left h] at this
theorem lv_set {xs:List Int} {n:Nat} (v:Int) (h:n<xs.length):lv (xs.set n v)=lv xs+10000^n*(v-rd xs (n:Int)):=by
 induction xs generalizing n with
 | nil=>simp at h
 | cons x xs ih =>
  cases n with
  | zero=>simp [lv,Go.Proofs.YtglaeambknhjlaaGreatDoorW.PrintWords.rd]; omega
  | succ n =>
   have e:=ih (n:=n) (by simpa using h)
   have er:rd (x :: xs) ((n+1:Nat):Int)=rd xs (n:Int):=by simp [Go.Proofs.YtglaeambknhjlaaGreatDoorW.PrintWords.rd]
   rw [List.set_cons_succ,er]
   simp only [lv,e,Int.pow_succ]
   grind
def lim (n:Nat):List Int:=if h:n=0 then [] else ((n%10000:Nat):Int) :: lim (n/10000)
termination_by n
decreasing_by omega
theorem lim_zero:lim 0 = []:=by rw [lim]; rfl
theorem lim_pos {n:Nat} (h:0<n):lim n=((n%10000:Nat):Int) :: lim (n/10000):=by rw [lim,dif_neg (by omega)]
theorem lim_len {n k:Nat} (h:n<10000^k):(lim n).length≤k:=by
 induction k generalizing n with
 | zero=>rw [show n=0 by simpa using h,lim_zero]; simp
 | succ k ih =>
  rcases Nat.eq_zero_or_pos n with h0|h0
  ·subst h0; rw [lim_zero]; simp
  ·rw [lim_pos h0,List.length_cons]
   have:=ih (n:=n/10000) (by rw [Nat.div_lt_iff_lt_mul (by decide)]; rwa [Nat.pow_succ] at h)
   omega
theorem lim_len_size (n:Nat):(lim n).length≤(T n).size:=by
 refine lim_len ?_
 have h1:=(T_size_le (n:=n) (k:=(T n).size) (by rw [T_size]; exact decl_length_pos n)).1 (Nat.le_refl _)
 have h2:10^(T n).size≤10000^(T n).size:=Nat.pow_le_pow_left (by decide) _
 omega
theorem w64' {x:Int} (h0 : -4611686018427387904≤x) (h1:x≤4611686018427387904):wrap64 x=x:=by unfold wrap64; omega
def seg (l:List UInt8) (i j:Nat):Nat:=dval ((l.drop i).take (j-i))
theorem seg_lt {l:List UInt8} (hd:Dig l) (i j:Nat) (h:i≤j) (hj:j≤l.length):seg l i j<10^(j-i):=by
 unfold seg
 have:=dval_lt _ ((hd.drop i).take (j-i))
 rwa [List.length_take,List.length_drop,Nat.min_eq_left (by omega)] at this
theorem seg_join {l:List UInt8} {i j k:Nat} (h:i≤j) (hj:j≤k) (hk:k≤l.length):seg l i k=seg l i j*10^(k-j)+seg l j k:=by
 have e:(l.drop i).take (k-i)=(l.drop i).take (j-i)++(l.drop j).take (k-j):=by
  rw [show k-i=(j-i)+(k-j) by omega,List.take_add,List.drop_drop,show i+(j-i)=j by omega]
 unfold seg
 rw [e,dval_append,List.length_take,List.length_drop,Nat.min_eq_left (by omega)]
theorem seg_all (l:List UInt8):seg l 0 l.length=dval l:=by
 unfold seg
 rw [Nat.sub_zero,List.drop_zero,List.take_length]
end Go.Proofs.YtglaeambknhjlaaGreatDoor.P
end
section
namespace Go.Proofs.YtglaeambknhjlaaGreatDoor.P
open Go.RowKit Go.Proofs.YtglaeambknhjlaaGreatDoorW.PrintWords Go.Proofs.YtglaeambknhjlaaGreatDoorW.PrintLast Go.Proofs.YtglaeambknhjlaaGreatDoorW.PrintMore
attribute [local go_sem] max2_int min2_int max_two min_two max_three min_three max_four min_four
mutual
def nat_Right.j0:Nat→ByteArray→Bool→Option (Bool)
 | 0,_,_=>none
 | k+1,x0,x21=>if x21=true then (some false) else (nat_Right.l0 k x0 (x0.size:Int) 0)
def nat_Right.l0:Nat→ByteArray→Int→Int→Option (Bool)
 | 0,_,_,_=>none
 | k+1,x0,x23,x24=>if x24<x23 then (if 0≤x24 then (if x24<(x0.size:Int) then (if (bt x0 x24)<48 then (some false) else (if (bt x0 x24)>57 then (some false) else (nat_Right.l0 k x0 x23 (wrap64 (x24+1))))) else (none)) else (none)) else (some true)
end
def nat_Right.f (k:Nat) (a0:ByteArray):Option (Bool):=if (a0.size:Int)=0 then (nat_Right.j0 k a0 true) else (if (a0.size:Int)>600 then (nat_Right.j0 k a0 true) else (if 0<(a0.size:Int) then (if (bt a0 0)=48 then (nat_Right.j0 k a0 (decide ((a0.size:Int)>1))) else (nat_Right.j0 k a0 false)) else (none)))
theorem nat_Right.calls (k:Nat) (a0:ByteArray) (r:Bool) (w:World) (h:nat_Right.f k a0=some r) :
  Calls Tryz.prog 194 #[.string a0] w fun e w'=>e = .returned (.bool r)∧Drawn0 w w':=by
 have H:(if (a0.size:Int)=0 then (nat_Right.j0 k a0 true) else (if (a0.size:Int)>600 then (nat_Right.j0 k a0 true) else (if 0<(a0.size:Int) then (if (bt a0 0)=48 then (nat_Right.j0 k a0 (decide ((a0.size:Int)>1))) else (nat_Right.j0 k a0 false)) else (none))))=some r:=h
 clear h
 have HC2:=Aside0.mk H
 clear H
 go_enter Tryz.func194,Tryz.ntmps194
 go_upto_region 1 with (fail)
 go_cut [21] (fun v21 wc=>∃ (kq:Nat) (x21_1:Bool),v21 = .bool x21_1∧Aside0 (nat_Right.j0 kq a0 x21_1=some r)∧Aside0 (kq≤k)∧Drawn0 w wc)
 case first =>
  have H:=HC2.out
  clear HC2
  by_cases c3:(a0.size:Int)=0
  ·rw [if_pos c3] at H
   have c3b0:((a0.size:Int) == 0)=true:=beq_iff_eq.mpr c3
   have c3b1:((a0.size:Int) != 0)=false:=bne_eq_false_iff_eq.mpr c3
   clear c3
   (first|rw [c3b0]|(simp only [i64_w,i32_w]; rw [c3b0])|skip)
   have H':=Aside0.mk H
   clear H
   go_wp2
   go_meet
   case rel=>exact ⟨_,(true),(by first|rfl|(simp; done)|(simp [*]; done)),H',⟨by first|omega|exact Nat.le_refl _⟩,by repeat (first|exact Drawn0.refl _|apply Drawn0.step)⟩
  ·rw [if_neg c3] at H
   have c3b0:((a0.size:Int) == 0)=false:=beq_eq_false_iff_ne.mpr c3
   have c3b1:((a0.size:Int) != 0)=true:=bne_iff_ne.mpr c3
   (first|rw [c3b0]|(simp only [i64_w,i32_w]; rw [c3b0])|skip)
   by_cases c4:(a0.size:Int)>600
   ·rw [if_pos c4] at H
    have c4b0:decide (600<(a0.size:Int))=true:=decide_eq_true c4
    have c4b1:decide (600<a0.size)=true:=decide_eq_true (by omega)
    clear c4
    have H':=Aside0.mk H
    clear H
    go_wp2
    go_meet
    case rel=>exact ⟨_,(true),(by first|rfl|(simp; done)|(simp [*]; done)),H',⟨by first|omega|exact Nat.le_refl _⟩,by repeat (first|exact Drawn0.refl _|apply Drawn0.step)⟩
   ·rw [if_neg c4] at H
    have c4b0:decide (600<(a0.size:Int))=false:=decide_eq_false c4
    have c4b1:decide (600<a0.size)=false:=decide_eq_false (by omega)
    clear c4
    by_cases c5:0<(a0.size:Int)
    ·rw [if_pos c5] at H
     have c5b0:decide (0<(a0.size:Int))=true:=decide_eq_true c5
     have c5b1:decide (0<a0.size)=true:=decide_eq_true (by omega)
     clear c5
     by_cases c7:(bt a0 0)=48
     ·rw [if_pos c7] at H
      have c7b0:((bt a0 0) == 48)=true:=beq_iff_eq.mpr c7
      have c7b1:((bt a0 0) != 48)=false:=bne_eq_false_iff_eq.mpr c7
      clear c7
      have H':=Aside0.mk H
      clear H
      have p6:0≤(0:Int):=(by omega)
      have q6:0<a0.size:=(by have:(0:Int)<(a0.size:Int):=of_decide_eq_true (by first|(with_reducible assumption)|assumption); omega)
      have hx6:∀ h:0<a0.size,((a0[0]'h).toNat:Int)=bt a0 0:=bt_at a0 0
      clear p6
      have qi6:(0<(a0.size:Int))=True:=eq_true (of_decide_eq_true (by first|(with_reducible assumption)|assumption))
      replace q6:=eq_true q6
      go_wp2
      go_meet
      case rel=>exact ⟨_,(decide ((a0.size:Int)>1)),(by first|rfl|(simp; done)|(simp [*]; done)),H',⟨by first|omega|exact Nat.le_refl _⟩,by repeat (first|exact Drawn0.refl _|apply Drawn0.step)⟩
     ·rw [if_neg c7] at H
      have c7b0:((bt a0 0) == 48)=false:=beq_eq_false_iff_ne.mpr c7
      have c7b1:((bt a0 0) != 48)=true:=bne_iff_ne.mpr c7
      have H':=Aside0.mk H
      clear H
      have p6:0≤(0:Int):=(by omega)
      have q6:0<a0.size:=(by have:(0:Int)<(a0.size:Int):=of_decide_eq_true (by first|(with_reducible assumption)|assumption); omega)
      have hx6:∀ h:0<a0.size,((a0[0]'h).toNat:Int)=bt a0 0:=bt_at a0 0
      clear p6
      have qi6:(0<(a0.size:Int))=True:=eq_true (of_decide_eq_true (by first|(with_reducible assumption)|assumption))
      replace q6:=eq_true q6
      go_wp2
      go_meet
      case rel=>exact ⟨_,(false),(by first|rfl|(simp; done)|(simp [*]; done)),H',⟨by first|omega|exact Nat.le_refl _⟩,by repeat (first|exact Drawn0.refl _|apply Drawn0.step)⟩
    ·rw [if_neg c5] at H
     exact absurd H (by simp)
 case rest =>
  clear HC2
  try clear c1
  try clear p2
  try clear c3
  try clear c3b0
  try clear c3b1
  try clear c4
  try clear c4b0
  try clear c4b1
  try clear c5
  try clear c5b0
  try clear c5b1
  try clear p6
  try clear q6
  try clear hx6
  try clear qi6
  try clear c7
  try clear c7b0
  try clear c7b1
  try clear p6
  try clear q6
  obtain ⟨kq,x21_1,rfl,HA,HJ1,⟨mc1,rfl⟩⟩:=hcut
  cases kq with
  | zero=>exact absurd HA.out (by simp [nat_Right.j0])
  | succ kj1 =>
   have H:=HA.out
   clear HA
   simp only [nat_Right.j0] at H
   by_cases c8:x21_1=true
   ·subst c8
    have H1:(some false)=some r:=by rw [if_pos rfl] at H; exact H
    clear H
    have H:=H1
    clear H1
    obtain rfl:=Option.some.inj H
    go_wp2
    go_ret
    exact ⟨by first|rfl|(simp; done)|(simp [*]; done),by repeat (first|exact Drawn0.refl _|apply Drawn0.step)⟩
   ·replace c8:=Bool.eq_false_iff.mpr c8
    subst c8
    have H1:(nat_Right.l0 kj1 a0 (a0.size:Int) 0)=some r:=by rw [if_neg (show ¬ (false=true) by decide)] at H; exact H
    clear H
    have H:=H1
    clear H1
    have H':=Aside0.mk H
    clear H
    go_wp2
    go_loopg [24] kj1 (fun kq v24 w'=>∃ (x24_2:Int),v24 = .int .i64 x24_2∧Aside0 (nat_Right.l0 kq a0 (a0.size:Int) x24_2=some r)∧Aside0 (kq≤kj1)∧Drawn0 w w')
    case atStart=>exact ⟨(0),(by first|rfl|(simp; done)|(simp [*]; done)),H',⟨Nat.le_refl _⟩,by repeat (first|exact Drawn0.refl _|apply Drawn0.step)⟩
    case round =>
     clear H'
     try clear c1
     try clear p2
     try clear c3
     try clear c3b0
     try clear c3b1
     try clear c4
     try clear c4b0
     try clear c4b1
     try clear c5
     try clear c5b0
     try clear c5b1
     try clear p6
     try clear q6
     try clear hx6
     try clear qi6
     try clear c7
     try clear c7b0
     try clear c7b1
     try clear c8
     try clear p2
     try clear p6
     try clear q6
     obtain ⟨x24_2,rfl,HA,HK2,⟨m2,rfl⟩⟩:=hrel
     cases gk with
     | zero=>exact absurd HA.out (by simp [nat_Right.l0])
     | succ k2 =>
      have H:=HA.out
      clear HA
      simp only [nat_Right.l0] at H
      by_cases c9:x24_2<(a0.size:Int)
      ·rw [if_pos c9] at H
       have c9b0:decide (x24_2<(a0.size:Int))=true:=decide_eq_true c9
       clear c9
       by_cases c10:0≤x24_2
       ·rw [if_pos c10] at H
        have c10b0:decide (0≤x24_2)=true:=decide_eq_true c10
        clear c10
        by_cases c11:x24_2<(a0.size:Int)
        ·rw [if_pos c11] at H
         have c11b0:decide (x24_2<(a0.size:Int))=true:=decide_eq_true c11
         clear c11
         by_cases c13:(bt a0 x24_2)<48
         ·rw [if_pos c13] at H
          have c13b0:decide ((bt a0 x24_2)<48)=true:=decide_eq_true c13
          clear c13
          obtain rfl:=Option.some.inj H
          have p12:0≤(x24_2:Int):=of_decide_eq_true (by first|(with_reducible assumption)|assumption)
          have q12:x24_2<(a0.size:Int):=of_decide_eq_true (by first|(with_reducible assumption)|assumption)
          have hx12:=bt_at a0 x24_2
          replace p12:=eq_true p12
          replace q12:=eq_true q12
          go_wp2
          go_ret
          exact ⟨by first|rfl|(simp; done)|(simp [*]; done),by repeat (first|exact Drawn0.refl _|apply Drawn0.step)⟩
         ·rw [if_neg c13] at H
          have c13b0:decide ((bt a0 x24_2)<48)=false:=decide_eq_false c13
          clear c13
          by_cases c15:(bt a0 x24_2)>57
          ·rw [if_pos c15] at H
           have c15b0:decide (57<(bt a0 x24_2))=true:=decide_eq_true c15
           clear c15
           obtain rfl:=Option.some.inj H
           have p12:0≤(x24_2:Int):=of_decide_eq_true (by first|(with_reducible assumption)|assumption)
           have q12:x24_2<(a0.size:Int):=of_decide_eq_true (by first|(with_reducible assumption)|assumption)
           have hx12:=bt_at a0 x24_2
           replace p12:=eq_true p12
           replace q12:=eq_true q12
           have p14:0≤(x24_2:Int):=of_decide_eq_true (by first|(with_reducible assumption)|assumption)
           have q14:x24_2<(a0.size:Int):=of_decide_eq_true (by first|(with_reducible assumption)|assumption)
           have hx14:=bt_at a0 x24_2
           replace p14:=eq_true p14
           replace q14:=eq_true q14
           go_wp2
           go_ret
           exact ⟨by first|rfl|(simp; done)|(simp [*]; done),by repeat (first|exact Drawn0.refl _|apply Drawn0.step)⟩
          ·rw [if_neg c15] at H
           have c15b0:decide (57<(bt a0 x24_2))=false:=decide_eq_false c15
           clear c15
           have H':=Aside0.mk H
           clear H
           have p12:0≤(x24_2:Int):=of_decide_eq_true (by first|(with_reducible assumption)|assumption)
           have q12:x24_2<(a0.size:Int):=of_decide_eq_true (by first|(with_reducible assumption)|assumption)
           have hx12:=bt_at a0 x24_2
           replace p12:=eq_true p12
           replace q12:=eq_true q12
           have p14:0≤(x24_2:Int):=of_decide_eq_true (by first|(with_reducible assumption)|assumption)
           have q14:x24_2<(a0.size:Int):=of_decide_eq_true (by first|(with_reducible assumption)|assumption)
           have hx14:=bt_at a0 x24_2
           replace p14:=eq_true p14
           replace q14:=eq_true q14
           go_wp2
           go_roundg k2
           case measure=>have:=HJ1.out; have:=HK2.out; omega
           case rel=>exact ⟨(wrap64 (x24_2+1)),(by first|rfl|(simp; done)|(simp [*]; done)),H',⟨by have:=HJ1.out; have:=HK2.out; omega⟩,by repeat (first|exact Drawn0.refl _|apply Drawn0.step)⟩
        ·rw [if_neg c11] at H
         exact absurd H (by simp)
       ·rw [if_neg c10] at H
        exact absurd H (by simp)
      ·rw [if_neg c9] at H
       have c9b0:decide (x24_2<(a0.size:Int))=false:=decide_eq_false c9
       clear c9
       obtain rfl:=Option.some.inj H
       go_wp2
       go_ret
       exact ⟨by first|rfl|(simp; done)|(simp [*]; done),by repeat (first|exact Drawn0.refl _|apply Drawn0.step)⟩
mutual
def cubitref01_natural.j0:Nat→ByteArray→Bool→Option (Bool)
 | 0,_,_=>none
 | k+1,x0,x15=>if x15=true then (some false) else (cubitref01_natural.l0 k x0 0)
def cubitref01_natural.l0:Nat→ByteArray→Int→Option (Bool)
 | 0,_,_=>none
 | k+1,x0,x3=>if x3<(x0.size:Int) then (if 0≤x3 then (if (bt x0 x3)<48 then (some false) else (if (bt x0 x3)>57 then (some false) else (cubitref01_natural.l0 k x0 (wrap64 (x3+1))))) else (none)) else (some true)
end
def cubitref01_natural.f (k:Nat) (a0:ByteArray):Option (Bool):=if a0.toList=([]:List UInt8) then (cubitref01_natural.j0 k a0 true) else (if 0<(a0.size:Int) then (if (bt a0 0)=48 then (cubitref01_natural.j0 k a0 (decide ((a0.size:Int)>1))) else (cubitref01_natural.j0 k a0 false)) else (none))
def cubitref01_Right.f (k:Nat) (a0:ByteArray):Option (Bool):=if (a0.size:Int)≤600 then ((cubitref01_natural.f k a0).bind fun t267=>(some t267)) else (some false)
end Go.Proofs.YtglaeambknhjlaaGreatDoor.P
end
section
namespace Go.Proofs.YtglaeambknhjlaaGreatDoor.P
open Go.RowKit Go.Proofs.YtglaeambknhjlaaGreatDoorW.PrintWords
instance (l:List UInt8):Decidable (Dig l):=by unfold Dig; infer_instance
instance (l:List UInt8):Decidable (Can l):=by unfold Can; infer_instance
theorem bt_nth (s:ByteArray) {i:Nat} (h:i<s.data.toList.length):bt s (i:Int)=(s.data.toList[i].toNat:Int):=by
 have hi:i<s.size:=by rw [data_length] at h; exact h
 have:=bt_at s (i:Int) (by rw [Int.toNat_natCast]; exact hi)
 rw [←this]
 simp [ByteArray.getElem_eq_getElem_data]
theorem dig_drop {l:List UInt8} {i:Nat} (h:i<l.length):Dig (l.drop i)↔(48≤l[i].toNat∧l[i].toNat≤57)∧Dig (l.drop (i+1)):=by
 rw [List.drop_eq_getElem_cons h]
 constructor
 ·intro hd
  exact ⟨hd _ List.mem_cons_self,fun c hc=>hd c (List.mem_cons_of_mem _ hc)⟩
 ·rintro ⟨h1,h2⟩ c hc
  rcases List.mem_cons.1 hc with rfl|hc
  ·exact h1
  ·exact h2 c hc
theorem nat_loop (s:ByteArray) (hs:s.size≤1099511627776):∀ (d i:Nat),d=s.size-i→i≤s.size→Ev (fun k=>nat_Right.l0 k s (s.size:Int) (i:Int)) (decide (Dig (s.data.toList.drop i))):=by
 have hl:s.data.toList.length=s.size:=data_length s
 intro d
 induction d with
 | zero =>
  intro i hd hi
  have:Dig (s.data.toList.drop i):=by rw [List.drop_eq_nil_of_le (by omega)]; intro c hc; cases hc
  rw [decide_eq_true this]
  refine Ev.step (f:=fun _=>some true) (fun k => ?_) (Ev.now _)
  simp only [nat_Right.l0]
  rw [if_neg (by omega)]
 | succ d ih =>
  intro i hd hi
  have hil:i<s.data.toList.length:=by omega
  have hb:=bt_nth s hil
  have hdd:=dig_drop hil
  by_cases h1:s.data.toList[i].toNat<48
  ·rw [decide_eq_false (fun h=>by have:=(hdd.1 h).1; omega)]
   refine Ev.step (f:=fun _=>some false) (fun k => ?_) (Ev.now _)
   simp only [nat_Right.l0]
   rw [if_pos (by omega),if_pos (by omega),if_pos (by omega),hb,if_pos (by omega)]
  ·by_cases h2:s.data.toList[i].toNat>57
   ·rw [decide_eq_false (fun h=>by have:=(hdd.1 h).1; omega)]
    refine Ev.step (f:=fun _=>some false) (fun k => ?_) (Ev.now _)
    simp only [nat_Right.l0]
    rw [if_pos (by omega),if_pos (by omega),if_pos (by omega),hb,if_neg (by omega),if_pos (by omega)]
   ·have e:decide (Dig (s.data.toList.drop i))=decide (Dig (s.data.toList.drop (i+1))):=decide_eq_decide.2 ⟨fun h=>(hdd.1 h).2,fun h=>hdd.2 ⟨by omega,h⟩⟩
    rw [e]
    refine Ev.step (f:=fun k=>nat_Right.l0 k s (s.size:Int) ((i+1:Nat):Int)) (fun k => ?_) (ih (i+1) (by omega) (by omega))
    simp only [nat_Right.l0]
    rw [if_pos (by omega),if_pos (by omega),if_pos (by omega),hb,if_neg (by omega),if_neg (by omega),w64' (by omega) (by omega)]
    rfl
def rightB (s:ByteArray):Bool:=decide (Can s.data.toList∧s.size≤600)
theorem can_iff {l:List UInt8} (h:0<l.length):Can l↔Dig l∧(l[0]=48→l.length=1):=by
 have:l.head? = some l[0]:=by rw [List.head?_eq_getElem?,List.getElem?_eq_getElem h]
 unfold Can
 rw [this]
 constructor
 ·rintro ⟨_,h2,h3⟩; exact ⟨h2,fun e=>h3 (by rw [e])⟩
 ·rintro ⟨h2,h3⟩; exact ⟨h,h2,fun e=>h3 (Option.some.inj e)⟩
theorem u48 {c:UInt8}:((c.toNat:Int)=48)↔c=48:=by
 have h:(48:UInt8).toNat=48:=rfl
 constructor
 ·intro e; exact UInt8.toNat_inj.1 (by omega)
 ·intro e; rw [e,h]; rfl
theorem nat_right_ev (s:ByteArray):Ev (fun k=>nat_Right.f k s) (rightB s):=by
 have hl:s.data.toList.length=s.size:=data_length s
 have hF:∀ b,b=false→Ev (fun k=>nat_Right.j0 k s true) b:=fun b hb=>by
  subst hb
  refine Ev.step (f:=fun _=>some false) (fun k => ?_) (Ev.now _)
  simp [nat_Right.j0]
 unfold nat_Right.f rightB
 by_cases h0:(s.size:Int)=0
 ·refine Ev.congr (f:=fun k=>nat_Right.j0 k s true) (fun k=>if_pos h0) (hF _ (decide_eq_false (fun h=>by have:=h.1.1; omega)))
 ·by_cases h6:(s.size:Int)>600
  ·refine Ev.congr (f:=fun k=>nat_Right.j0 k s true) (fun k=>by rw [if_neg h0,if_pos h6]) (hF _ (decide_eq_false (fun h=>by have:=h.2; omega)))
  ·have hp:0<s.data.toList.length:=by omega
   have hb:=bt_nth s hp
   have hb0:bt s 0=(s.data.toList[0].toNat:Int):=hb
   have hL:=nat_loop s (by omega) s.size 0 (by omega) (by omega)
   rw [List.drop_zero] at hL
   have hgo:∀ b:Bool,(Dig s.data.toList↔b=true)→Ev (fun k=>nat_Right.j0 k s false) b:=fun b hb=>by
    have:b=decide (Dig s.data.toList):=by
     cases b
     ·exact (decide_eq_false (fun h=>by have:=hb.1 h; cases this)).symm
     ·exact (decide_eq_true (hb.2 rfl)).symm
    rw [this]
    refine Ev.step (fun k => ?_) hL
    simp only [nat_Right.j0]
    rfl
   by_cases h48:bt s 0=48
   ·by_cases h1:(s.size:Int)>1
    ·refine Ev.congr (f:=fun k=>nat_Right.j0 k s true) (fun k=>by rw [if_neg h0,if_neg h6,if_pos (by omega),if_pos h48,decide_eq_true h1]) (hF _ (decide_eq_false (fun h => ?_)))
     have:=((can_iff hp).1 h.1).2 (u48.1 (by omega))
     omega
    ·refine Ev.congr (f:=fun k=>nat_Right.j0 k s false) (fun k=>by rw [if_neg h0,if_neg h6,if_pos (by omega),if_pos h48,decide_eq_false h1]) (hgo _ ?_)
     rw [decide_eq_true_iff,can_iff hp]
     exact ⟨fun h=>⟨⟨h,fun _=>by omega⟩,by omega⟩,fun h=>h.1.1⟩
   ·refine Ev.congr (f:=fun k=>nat_Right.j0 k s false) (fun k=>by rw [if_neg h0,if_neg h6,if_pos (by omega),if_neg h48]) (hgo _ ?_)
    rw [decide_eq_true_iff,can_iff hp]
    exact ⟨fun h=>⟨⟨h,fun e=>absurd (by rw [hb0]; exact u48.2 e) h48⟩,by omega⟩,fun h=>h.1.1⟩
theorem right_iff {s:ByteArray}:rightB s=true↔∃ n,s=T n∧n<10^600:=by
 unfold rightB
 rw [decide_eq_true_iff]
 constructor
 ·rintro ⟨h1,h2⟩
  refine ⟨dval s.data.toList,can_T h1,?_⟩
  have:=T_size_le (n:=dval s.data.toList) (k:=600) (by decide)
  rw [←can_T h1] at this
  exact this.1 h2
 ·rintro ⟨n,rfl,hn⟩
  exact ⟨T_can n,(T_size_le (by decide)).2 hn⟩
end Go.Proofs.YtglaeambknhjlaaGreatDoor.P
end
