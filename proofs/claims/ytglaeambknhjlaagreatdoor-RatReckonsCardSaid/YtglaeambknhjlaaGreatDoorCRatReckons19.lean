/- Texts under the proof, joined by a program (prune.py): QRatPow, Q245, QRefPow, QRefPow2. -/
import Derived.Test.YtglaeambknhjlaaGreatDoorCRatReckons18
import Derived.Test.YtglaeambknhjlaaGreatDoorCRatReckons05
import Derived.Test.YtglaeambknhjlaaGreatDoorCRatReckons06
import Derived.Test.YtglaeambknhjlaaGreatDoorCRatReckons13
import Derived.Test.YtglaeambknhjlaaGreatDoorCRatReckons11
set_option linter.unusedVariables false
set_option linter.unusedSimpArgs false
set_option exponentiation.threshold 20001
set_option maxHeartbeats 8000000
set_option maxRecDepth 100000
section
namespace Go.Proofs.ZQ
open Go.RowKit Go.Proofs.ZW.Wa Go.Proofs.ZP Go.Proofs.ZW.Wb Go.Proofs.ZW.Wc
attribute [local go_sem] zaK zaJ zaU zaT
theorem ten600:10^600≤2^2000:=by decide
theorem two_far {m k Y:Nat} (h:2^m≤Y) (hm:2000≤m*k):10^600≤Y^k:=
 Nat.le_trans ten600 (Nat.le_trans (Nat.pow_le_pow_right (by decide) hm) (by rw [Nat.pow_mul]; exact Nat.pow_le_pow_left h k))
theorem ten_far {m k Y:Nat} (h:10^m≤Y) (hm:600≤m*k):10^600≤Y^k:=
 Nat.le_trans (Nat.pow_le_pow_right (by decide) hm) (by rw [Nat.pow_mul]; exact Nat.pow_le_pow_left h k)
theorem neg_pow (a:Int) (ha:a<0) (k:Nat):a^k<0↔k%2=1:=by
 induction k with
 | zero=>simp
 | succ n ih =>
  rw [Int.pow_succ]
  by_cases h:n%2=1
  ·have h1:=ih.2 h
   have:0<a^n*a:=Int.mul_pos_of_neg_of_neg h1 ha
   omega
  ·have h1:¬ a^n<0:=fun e=>h (ih.1 e)
   have h0:a^n≠0:=Int.pow_ne_zero (by omega)
   have:a^n*a<0:=Int.mul_neg_of_pos_of_neg (by omega) ha
   omega
theorem pos_pow (a:Int) (ha:0≤a) (k:Nat):¬ a^k<0:=by
 have:=Int.pow_nonneg (n:=a) (m:=k) ha; omega
theorem inv_abs {y:Rat} (h:y≠0):(y⁻¹).num.natAbs=y.den∧(y⁻¹).den=y.num.natAbs:=by
 have hn:y.num≠0:=fun e=>h (Rat.num_eq_zero.1 e)
 have hg:Int.gcd y.num y.den=1:=y.reduced
 have hg2:Int.gcd y.den y.num=1:=by rw [Int.gcd_comm]; exact hg
 rw [Rat.inv_def]
 constructor
 ·rw [Rat.num_divInt,hg]
  rcases Int.lt_trichotomy y.num 0 with h|h|h
  ·rw [Int.sign_eq_neg_one_of_neg h]; simp
  ·exact absurd h hn
  ·rw [Int.sign_eq_one_of_pos h]; simp
 ·rw [Rat.den_divInt,if_neg hn,hg]
  simp
theorem zpow_parts {x:Rat} {p:Int} (h:p<0→x≠0):(x^p).num.natAbs=(if p<0 then x.den else x.num.natAbs)^p.natAbs∧(x^p).den=(if p<0 then x.num.natAbs else x.den)^p.natAbs:=by
 by_cases hp:p<0
 ·rw [if_pos hp,if_pos hp]
  have e:p = -((p.natAbs:Nat):Int):=by omega
  have h0:x^p.natAbs≠0:=by
   intro e0
   have e1:=congrArg Rat.num e0
   rw [Rat.num_pow] at e1
   exact Int.pow_ne_zero (fun e2=>h hp (Rat.num_eq_zero.1 e2)) e1
  have hi:=inv_abs h0
  rw [Rat.num_pow,Rat.den_pow,Int.natAbs_pow] at hi
  rw [←Rat.zpow_natCast,←Rat.zpow_neg,←e] at hi
  exact hi
 ·rw [if_neg hp,if_neg hp]
  have e:p=((p.natAbs:Nat):Int):=by omega
  have e1:x^p=x^p.natAbs:=by rw [←Rat.zpow_natCast,←e]
  rw [e1,Rat.num_pow,Rat.den_pow,Int.natAbs_pow]
  exact ⟨rfl,rfl⟩
theorem div_pow_pos (x:Rat) (k:Nat):Rat.divInt (x.num^k) (((x.den:Nat):Int)^k)=x^(k:Int):=by
 rw [Rat.zpow_natCast,←Int.natCast_pow,←Rat.den_pow,←Rat.num_pow,Rat.num_divInt_den]
theorem div_pow_neg (x:Rat) (k:Nat):Rat.divInt (((x.den:Nat):Int)^k) (x.num^k)=x^(-(k:Int)):=by
 rw [Rat.zpow_neg,Rat.zpow_natCast,Rat.inv_def,Rat.num_pow,Rat.den_pow,Int.natCast_pow]
theorem Pow_do1 (w:World) (x:Rat) (p:Int) (B:Nat) (hB:w.heap[B]? = some (.cells #[.int .i64 p] 3 (0,0))) (hp:p < -4096∨4096<p) (r:Rat):OneDo 154 #[.pointer (some ⟨B,0,none⟩)] w x 1 r:=by
 intro W z gx hb h1 h2 n1 hz hx
 have hB2:=(hb.block _ (zaq hB)).trans hB
 have c0:=(zaf hB2 0).trans (show _=some (Value.int .i64 p) from rfl)
 change Calls Tryz.prog 154 #[.pointer (some ⟨z,0,none⟩),.pointer (some ⟨gx,0,none⟩),.pointer (some ⟨B,0,none⟩)] W _
 clear hz hx hb h1 h2 n1 hB2 hB
 by_cases hl:p < -4096
 ·go_enter Tryz.func154,Tryz.ntmps154
  go_wp2
  go_ret
  first|exact ⟨rfl,fun e=>absurd e (by decide),by first|exact KeepB.refl _ _|exact (KeepB.refl _ _).drewN _⟩|exact ⟨rfl,KeepB.refl _ _⟩|exact ⟨rfl,(KeepB.refl _ _).drewN _⟩
 ·have hg:p>4096:=by omega
  go_enter Tryz.func154,Tryz.ntmps154
  go_wp2
  go_ret
  first|exact ⟨rfl,fun e=>absurd e (by decide),by first|exact KeepB.refl _ _|exact (KeepB.refl _ _).drewN _⟩|exact ⟨rfl,KeepB.refl _ _⟩|exact ⟨rfl,(KeepB.refl _ _).drewN _⟩
theorem Pow_do8 (w:World) (p:Int) (B:Nat) (hB:w.heap[B]? = some (.cells #[.int .i64 p] 3 (0,0))) (hp : -4096≤p∧p<0) (r:Rat):OneDo 154 #[.pointer (some ⟨B,0,none⟩)] w 0 8 r:=by
 intro W z gx hb h1 h2 n1 hz hx
 have hB2:=(hb.block _ (zaq hB)).trans hB
 have c0:=(zaf hB2 0).trans (show _=some (Value.int .i64 p) from rfl)
 have HSg:=Lib.hid (zcf gx 0 W hx)
 have hl:¬ p < -4096:=by omega
 have hg:¬ p>4096:=by omega
 have hn:p<0:=hp.2
 change Calls Tryz.prog 154 #[.pointer (some ⟨z,0,none⟩),.pointer (some ⟨gx,0,none⟩),.pointer (some ⟨B,0,none⟩)] W _
 clear hz hx hb h1 h2 n1 hB2 hB
 go_enter Tryz.func154,Tryz.ntmps154
 go_wp2_with fail
 refine HSg.out.mono ?_
 rintro e w1 ⟨rfl,rfl⟩
 have h0:(0:Rat).num.sign=0:=rfl
 rw [h0]
 go_wp2
 go_ret
 first|exact ⟨rfl,fun e=>absurd e (by decide),by first|exact KeepB.refl _ _|exact (KeepB.refl _ _).drewN _⟩|exact ⟨rfl,KeepB.refl _ _⟩|exact ⟨rfl,(KeepB.refl _ _).drewN _⟩
theorem bl_le {n:Nat} {x:Int} (h:Bd n x):bl x.natAbs≤n:=by
 rcases Nat.lt_or_ge n (bl x.natAbs) with h1|h1
 ·exact absurd h (Nat.not_lt.2 ((bl_spec x.natAbs).2 n h1).1)
 ·exact h1
theorem bl_pos {n:Nat} (h:0<n):1≤bl n:=by
 have:=(bl_spec n).1
 rcases Nat.eq_zero_or_pos (bl n) with h1|h1
 ·rw [h1] at this; omega
 ·exact h1
theorem Pow_doP (w:World) (x:Rat) (p:Int) (K:Nat) (hK:p=(K:Int)) (B:Nat) (hB:w.heap[B]? = some (.cells #[.int .i64 p] 3 (0,0))) (hp:K≤4096) (hsx:Bdr 2000 x) (y:Int) (hy:y=if 2400<(max (bl x.num.natAbs) (bl x.den)-1)*K then 7 else 0):OneDo 154 #[.pointer (some ⟨B,0,none⟩)] w x y (x^p):=by
 intro W z gx hb h1 h2 n1 hz hx
 have hB2:=(hb.block _ (zaq hB)).trans hB
 have hBz:B≠z:=by have:=zaq hB; omega
 have c0:=(zaf hB2 0).trans (show _=some (Value.int .i64 p) from rfl)
 have HK:=Lib.hid (show ∀ W':World,Below W.heap.size W W'→W'.cell? ⟨B,0,none⟩=some (.int .i64 p) from fun W' h=>(zaf ((h.block _ (zaq hB2)).trans hB2) 0).trans (show _=some (Value.int .i64 p) from rfl))
 have HSg:=Lib.hid (zcf gx x W hx)
 have HX:=Lib.hid hx
 have HZ:=Lib.hid hz
 have HBX:=Lib.hid hsx
 have hla:=bl_le hsx.1
 have hlb:=bl_le hsx.2
 have hlc:=bl_pos x.den_pos
 rw [Int.natAbs_natCast] at hlb
 generalize hba:bl x.num.natAbs=la at *
 generalize hbb:bl x.den=lb at *
 have HLA:=Lib.hid hba
 have HLB:=Lib.hid hbb
 clear hba hbb
 have hl:¬ p < -4096:=by omega
 have hg:¬ p>4096:=by omega
 have hn:¬ p<0:=by omega
 have hw1:wrap64 (-p) = -p:=by unfold wrap64; omega
 have hw2:IntKind.i64.wrap (-p) = -p:=IntWalk.i64_in _ (by omega)
 have hw3:wrap64 ((la:Int)-1)=(la:Int)-1:=by unfold wrap64; omega
 have hw4:wrap64 ((lb:Int)-1)=(lb:Int)-1:=by unfold wrap64; omega
 have hpp : -4096≤p∧p≤4096:=by omega
 have HNI:=Lib.hid (fun W'=>za3 p W' (by omega) (by omega))
 have HKp:=Lib.hid hK
 have hPb:(max la lb-1)*K≤8192000:=Nat.le_trans (Nat.mul_le_mul (show max la lb-1≤2000 by omega) hp) (by decide)
 have hPe:(((max la lb-1)*K:Nat):Int)=(if (la:Int)<(lb:Int) then (lb:Int)-1 else (la:Int)-1)*p:=by
  rw [Int.natCast_mul,hK,show ((max la lb-1:Nat):Int)=(if (la:Int)<(lb:Int) then (lb:Int)-1 else (la:Int)-1) by split<;>omega]
 generalize (max la lb-1)*K=P at *
 have hwP:wrap64 (P:Int)=(P:Int):=by unfold wrap64; omega
 have HPE:=Lib.hid hPe
 have HPB:=Lib.hid hPb
 clear hPe hPb
 change Calls Tryz.prog 154 #[.pointer (some ⟨z,0,none⟩),.pointer (some ⟨gx,0,none⟩),.pointer (some ⟨B,0,none⟩)] W _
 have HY:=Lib.hid hy
 have hzl:=hz.lt
 clear hb h1 h2 hB hx hsx hK hz hy
 go_enter Tryz.func154,Tryz.ntmps154
 go_wp2_with fail
 refine HSg.out.mono ?_
 rintro e w1 ⟨rfl,rfl⟩
 generalize x.num.sign=sg0
 have hS1:(sg0 == 0)=true∨(sg0 == 0)=false:=by cases (sg0 == 0)<;>simp
 rcases hS1 with hs1|hs1<;>by_cases hab:(la:Int)<(lb:Int)
 all_goals
  go_wp2_with fail
  refine (HNI.out _).mono ?_
  rintro e w1 ⟨D0,rfl,hD0,hi0,hb0⟩
  go_wp2_with fail
  refine (zda gx x _ (HX.out.below hb0) HBX.out (by decide)).mono ?_
  rintro e w2 ⟨D1,rfl,hD1,hi1,hb1⟩
  go_wp2_with fail
  refine (zbl D1 0 x.num _ hi1 HBX.out.1 (by decide)).mono ?_
  rintro e w4 ⟨rfl,hd4⟩
  obtain ⟨nd4,rfl⟩:=hd4.out
  rw [HLA.out]
  go_wp2_with fail
  refine (za6 gx x _ (HX.out.below (bthen hb0 (bthen hb1 (zao _ _)))) HBX.out (by decide)).mono ?_
  rintro e w3 ⟨D2,rfl,hD2,hi2,hb2⟩
  go_wp2_with fail
  refine (zbl D2 0 (x.den:Int) _ hi2 HBX.out.2 (by decide)).mono ?_
  rintro e w5 ⟨rfl,hd5⟩
  obtain ⟨nd5,rfl⟩:=hd5.out
  rw [Int.natAbs_natCast,HLB.out]
  clear hd4 hd5
  go_wp2_with fail
  refine (int64_calls D0 0 p _ (hi0.below (bthen hb1 (bthen (zao _ _) (bthen hb2 (zao _ _))))) (by omega) (by omega)).mono ?_
  rintro e w6 ⟨rfl,hb6⟩
  clear hw3 hw4
  have hPe:=HPE.out
  first|rw [if_pos hab] at hPe|rw [if_neg (by omega)] at hPe
  have hB6:=bthen hb0 (bthen hb1 (bthen (zao _ nd4) (bthen hb2 (bthen (zao _ nd5) hb6))))
  have hi6:=hi0.below (bthen hb1 (bthen (zao _ nd4) (bthen hb2 (bthen (zao _ nd5) hb6))))
  have hD0l:=hi0.lt
  have hS6:=hB6.size
  clear hi0 hi1 hi2 hb0 hb1 hb2 hb6 hD1 hD2
  by_cases hv:(P:Int)>2400
  ·have hy:y=7:=HY.out.trans (if_pos (by omega))
   subst hy
   rw [hPe] at hwP hv
   clear hPe
   go_wp2
   go_ret
   exact ⟨rfl,fun e=>absurd e (by decide),KeepB.of_below hB6 z⟩
  ·have hy:y=0:=HY.out.trans (if_neg (by omega))
   subst hy
   rw [hPe] at hwP hv
   clear hPe
   go_wp2_with fail
   refine (zda gx x _ ((HX.out.below hB6).below (zaa (Below.refl _ _) _)) HBX.out (by decide)).mono ?_
   rintro e w7 ⟨D3,rfl,hD3,hi3,hb3⟩
   have hz7:=((IntAt.new w6 105 (by decide)).below hb3).slot
   have hk7:IntAt w7 D0 0 (K:Int):=by have h:=(hi6.below (zaa (Below.refl _ _) _)).below hb3; rw [HKp.out] at h; exact h
   have hB7:=bthen hB6 (bthen (zaa (Below.refl _ _) (.cells #[.bool false,.slice none 0 0] 105)) hb3)
   have hl6:=hi6.lt
   go_wp2_with fail
   refine (zct w6.heap.size 0 D3 0 D0 0 _ x.num K w7 hz7 hi3 hk7 HBX.out.1 (by decide) (by unfold big; omega)).mono ?_
   rintro e w8 ⟨rfl,he8,hu8⟩
   have hB8:=hu8.new hB7 hS6
   have hk8:=hk7.upd hu8 (Or.inl (by omega))
   have hE1:=he8.lt
   generalize w6.heap.size=E1 at *
   clear hz7 hk7 hB7 hi3 hb3 hu8 hi6
   go_wp2_with fail
   refine (za6 gx x _ ((HX.out.below hB8).below (zaa (Below.refl _ _) _)) HBX.out (by decide)).mono ?_
   rintro e w9 ⟨D4,rfl,hD4,hi4,hb4⟩
   have hz9:=((IntAt.new w8 105 (by decide)).below hb4).slot
   have hk9:=(hk8.below (zaa (Below.refl _ _) _)).below hb4
   have he9:=(he8.below (zaa (Below.refl _ _) _)).below hb4
   have hB9:=bthen hB8 (bthen (zaa (Below.refl _ _) (.cells #[.bool false,.slice none 0 0] 105)) hb4)
   go_wp2_with fail
   refine (zct w8.heap.size 0 D4 0 D0 0 _ (x.den:Int) K w9 hz9 hi4 hk9 HBX.out.2 (by decide) (by unfold big; omega)).mono ?_
   rintro e w10 ⟨rfl,hf10,hu10⟩
   have hB10:=hu10.new hB9 hB8.size
   have he10:=he9.upd hu10 (Or.inl (by omega))
   generalize w8.heap.size=E2 at *
   clear hz9 hi4 hk9 hk8 he9 he8 hB9 hB8 hB6 hb4 hu10 HX
   have hz10:=HZ.out.below hB10
   have cn:=HK.out _ hB10
   go_wp2_with fail
   refine (zaY z E1 0 E2 0 _ _ w10 hz10.slot he10 hf10 (Int.pow_ne_zero (by have:=x.den_pos; omega)) (HBX.out.1.pow (by decide) K) (HBX.out.2.pow (by decide) K) (n:=2000*K+1) (by unfold big; omega)).mono ?_
   rintro e w11 ⟨rfl,hr11,hu11⟩
   have hK11:KeepB W w11 z:=(hu11.lift hB10).keepB
   have hr:RatAt w11 z (x^p):=by rw [show p=(K:Int) from HKp.out,←div_pow_pos x K]; exact hr11
   clear hr11 hu11 hz10 he10 hf10 hB10
   go_wp2
   go_ret
   first|exact ⟨rfl,fun _=>hr,hK11⟩|exact ⟨rfl,hr,hK11⟩
theorem Pow_doN (w:World) (x:Rat) (p:Int) (K:Nat) (hK:(-p)=(K:Int)) (B:Nat) (hB:w.heap[B]? = some (.cells #[.int .i64 p] 3 (0,0))) (hp:K≤4096) (hp0:0<K) (hx0:x≠0) (hsx:Bdr 2000 x) (y:Int) (hy:y=if 2400<(max (bl x.num.natAbs) (bl x.den)-1)*K then 7 else 0):OneDo 154 #[.pointer (some ⟨B,0,none⟩)] w x y (x^p):=by
 intro W z gx hb h1 h2 n1 hz hx
 have hB2:=(hb.block _ (zaq hB)).trans hB
 have hBz:B≠z:=by have:=zaq hB; omega
 have c0:=(zaf hB2 0).trans (show _=some (Value.int .i64 p) from rfl)
 have HK:=Lib.hid (show ∀ W':World,Below W.heap.size W W'→W'.cell? ⟨B,0,none⟩=some (.int .i64 p) from fun W' h=>(zaf ((h.block _ (zaq hB2)).trans hB2) 0).trans (show _=some (Value.int .i64 p) from rfl))
 have HSg:=Lib.hid (zcf gx x W hx)
 have HX:=Lib.hid hx
 have HZ:=Lib.hid hz
 have HBX:=Lib.hid hsx
 have hla:=bl_le hsx.1
 have hlb:=bl_le hsx.2
 have hlc:=bl_pos x.den_pos
 rw [Int.natAbs_natCast] at hlb
 generalize hba:bl x.num.natAbs=la at *
 generalize hbb:bl x.den=lb at *
 have HLA:=Lib.hid hba
 have HLB:=Lib.hid hbb
 clear hba hbb
 have hl:¬ p < -4096:=by omega
 have hg:¬ p>4096:=by omega
 have hn:p<0:=by omega
 have hw1:wrap64 (-p) = -p:=by unfold wrap64; omega
 have hw2:IntKind.i64.wrap (-p) = -p:=IntWalk.i64_in _ (by omega)
 have hw3:wrap64 ((la:Int)-1)=(la:Int)-1:=by unfold wrap64; omega
 have hw4:wrap64 ((lb:Int)-1)=(lb:Int)-1:=by unfold wrap64; omega
 have hpp : -4096≤p∧p≤4096:=by omega
 have HNI:=Lib.hid (fun W'=>za3 (-p) W' (by omega) (by omega))
 have HKp:=Lib.hid hK
 have hPb:(max la lb-1)*K≤8192000:=Nat.le_trans (Nat.mul_le_mul (show max la lb-1≤2000 by omega) hp) (by decide)
 have hPe:(((max la lb-1)*K:Nat):Int)=(if (la:Int)<(lb:Int) then (lb:Int)-1 else (la:Int)-1)*(-p):=by
  rw [Int.natCast_mul,hK,show ((max la lb-1:Nat):Int)=(if (la:Int)<(lb:Int) then (lb:Int)-1 else (la:Int)-1) by split<;>omega]
 generalize (max la lb-1)*K=P at *
 have hwP:wrap64 (P:Int)=(P:Int):=by unfold wrap64; omega
 have HPE:=Lib.hid hPe
 have HPB:=Lib.hid hPb
 clear hPe hPb
 change Calls Tryz.prog 154 #[.pointer (some ⟨z,0,none⟩),.pointer (some ⟨gx,0,none⟩),.pointer (some ⟨B,0,none⟩)] W _
 have HY:=Lib.hid hy
 have hzl:=hz.lt
 clear hb h1 h2 hB hx hsx hK hz hy
 go_enter Tryz.func154,Tryz.ntmps154
 go_wp2_with fail
 refine HSg.out.mono ?_
 rintro e w1 ⟨rfl,rfl⟩
 have hS1:(x.num.sign == 0)=false:=beq_eq_false_iff_ne.2 (fun e=>hx0 (Rat.num_eq_zero.1 (Int.sign_eq_zero_iff_zero.1 e)))
 generalize x.num.sign=sg0 at hS1 ⊢
 by_cases hab:(la:Int)<(lb:Int)
 all_goals
  go_wp2_with fail
  refine (HNI.out _).mono ?_
  rintro e w1 ⟨D0,rfl,hD0,hi0,hb0⟩
  go_wp2_with fail
  refine (zda gx x _ (HX.out.below hb0) HBX.out (by decide)).mono ?_
  rintro e w2 ⟨D1,rfl,hD1,hi1,hb1⟩
  go_wp2_with fail
  refine (zbl D1 0 x.num _ hi1 HBX.out.1 (by decide)).mono ?_
  rintro e w4 ⟨rfl,hd4⟩
  obtain ⟨nd4,rfl⟩:=hd4.out
  rw [HLA.out]
  go_wp2_with fail
  refine (za6 gx x _ (HX.out.below (bthen hb0 (bthen hb1 (zao _ _)))) HBX.out (by decide)).mono ?_
  rintro e w3 ⟨D2,rfl,hD2,hi2,hb2⟩
  go_wp2_with fail
  refine (zbl D2 0 (x.den:Int) _ hi2 HBX.out.2 (by decide)).mono ?_
  rintro e w5 ⟨rfl,hd5⟩
  obtain ⟨nd5,rfl⟩:=hd5.out
  rw [Int.natAbs_natCast,HLB.out]
  clear hd4 hd5
  go_wp2_with fail
  refine (int64_calls D0 0 (-p) _ (hi0.below (bthen hb1 (bthen (zao _ _) (bthen hb2 (zao _ _))))) (by omega) (by omega)).mono ?_
  rintro e w6 ⟨rfl,hb6⟩
  clear hw3 hw4
  have hPe:=HPE.out
  first|rw [if_pos hab] at hPe|rw [if_neg (by omega)] at hPe
  have hB6:=bthen hb0 (bthen hb1 (bthen (zao _ nd4) (bthen hb2 (bthen (zao _ nd5) hb6))))
  have hi6:=hi0.below (bthen hb1 (bthen (zao _ nd4) (bthen hb2 (bthen (zao _ nd5) hb6))))
  have hD0l:=hi0.lt
  have hS6:=hB6.size
  clear hi0 hi1 hi2 hb0 hb1 hb2 hb6 hD1 hD2
  by_cases hv:(P:Int)>2400
  ·have hy:y=7:=HY.out.trans (if_pos (by omega))
   subst hy
   rw [hPe] at hwP hv
   clear hPe
   go_wp2
   go_ret
   exact ⟨rfl,fun e=>absurd e (by decide),KeepB.of_below hB6 z⟩
  ·have hy:y=0:=HY.out.trans (if_neg (by omega))
   subst hy
   rw [hPe] at hwP hv
   clear hPe
   go_wp2_with fail
   refine (zda gx x _ ((HX.out.below hB6).below (zaa (Below.refl _ _) _)) HBX.out (by decide)).mono ?_
   rintro e w7 ⟨D3,rfl,hD3,hi3,hb3⟩
   have hz7:=((IntAt.new w6 105 (by decide)).below hb3).slot
   have hk7:IntAt w7 D0 0 (K:Int):=by have h:=(hi6.below (zaa (Below.refl _ _) _)).below hb3; rw [HKp.out] at h; exact h
   have hB7:=bthen hB6 (bthen (zaa (Below.refl _ _) (.cells #[.bool false,.slice none 0 0] 105)) hb3)
   have hl6:=hi6.lt
   go_wp2_with fail
   refine (zct w6.heap.size 0 D3 0 D0 0 _ x.num K w7 hz7 hi3 hk7 HBX.out.1 (by decide) (by unfold big; omega)).mono ?_
   rintro e w8 ⟨rfl,he8,hu8⟩
   have hB8:=hu8.new hB7 hS6
   have hk8:=hk7.upd hu8 (Or.inl (by omega))
   have hE1:=he8.lt
   generalize w6.heap.size=E1 at *
   clear hz7 hk7 hB7 hi3 hb3 hu8 hi6
   go_wp2_with fail
   refine (za6 gx x _ ((HX.out.below hB8).below (zaa (Below.refl _ _) _)) HBX.out (by decide)).mono ?_
   rintro e w9 ⟨D4,rfl,hD4,hi4,hb4⟩
   have hz9:=((IntAt.new w8 105 (by decide)).below hb4).slot
   have hk9:=(hk8.below (zaa (Below.refl _ _) _)).below hb4
   have he9:=(he8.below (zaa (Below.refl _ _) _)).below hb4
   have hB9:=bthen hB8 (bthen (zaa (Below.refl _ _) (.cells #[.bool false,.slice none 0 0] 105)) hb4)
   go_wp2_with fail
   refine (zct w8.heap.size 0 D4 0 D0 0 _ (x.den:Int) K w9 hz9 hi4 hk9 HBX.out.2 (by decide) (by unfold big; omega)).mono ?_
   rintro e w10 ⟨rfl,hf10,hu10⟩
   have hB10:=hu10.new hB9 hB8.size
   have he10:=he9.upd hu10 (Or.inl (by omega))
   generalize w8.heap.size=E2 at *
   clear hz9 hi4 hk9 hk8 he9 he8 hB9 hB8 hB6 hb4 hu10 HX
   have hz10:=HZ.out.below hB10
   have cn:=HK.out _ hB10
   go_wp2_with fail
   refine (zaY z E2 0 E1 0 _ _ w10 hz10.slot hf10 he10 (Int.pow_ne_zero (fun h=>hx0 (Rat.num_eq_zero.1 h))) (HBX.out.2.pow (by decide) K) (HBX.out.1.pow (by decide) K) (n:=2000*K+1) (by unfold big; omega)).mono ?_
   rintro e w11 ⟨rfl,hr11,hu11⟩
   have hK11:KeepB W w11 z:=(hu11.lift hB10).keepB
   have hr:RatAt w11 z (x^p):=by rw [show p = -(K:Int) by have:=HKp.out; omega,←div_pow_neg x K]; exact hr11
   clear hr11 hu11 hz10 he10 hf10 hB10
   go_wp2
   go_ret
   first|exact ⟨rfl,fun _=>hr,hK11⟩|exact ⟨rfl,hr,hK11⟩
theorem Pow_wrap (a0 a1:ByteArray) (p:Int) (w:World) (tt:ByteArray×ByteArray×Int) (hd:∀ (W:World) (B:Nat),Below w.heap.size w W→w.heap.size≤B→W.heap[B]? = some (.cells #[.int .i64 p] 3 (0,0))→Says 132 #[.agg #[.string a0,.string a1],.func (.func 154) #[] #[.pointer (some ⟨B,0,none⟩)]] W tt):Says 72 #[.agg #[.string a0,.string a1],.int .i64 p] w tt:=by
 have HD:=Lib.hid hd
 clear hd
 unfold Says
 go_enter Tryz.func72,Tryz.ntmps72
 obtain ⟨hbk,hbx,hba⟩:=start1c w a0 a1 p
 go_wp2_with fail
 generalize (((w.alloc (.cells #[.string a0,.string a1] 23)).alloc (.cells #[.int .i64 p] 3)).alloc (.cells #[.string ⟨#[]⟩,.string ⟨#[]⟩] 23))=W0 at *
 generalize hBx:w.heap.size+1=X0 at *
 generalize hBe:X0+1=B0 at *
 have HBE:=Lib.hid (show w.heap.size≤B0 by omega)
 have hX:w.heap.size≤X0:=by omega
 clear hBe hBx
 refine (HD.out _ _ hba hX hbx).mono ?_
 rintro e w1 ⟨rfl,hb1⟩
 have hbk5:=(hb1.block _ (zaq hbk)).trans hbk
 have hB5:=bthen hba hb1
 have cB0:=(zaf hbk5 0).trans (show _=some (Value.string ⟨#[]⟩) from rfl)
 have cB1:=(zaf hbk5 1).trans (show _=some (Value.string ⟨#[]⟩) from rfl)
 have fB0:=zac hbk5 0
 have fB1:=zac hbk5 1
 have hs1:=zat hbk5 0 (.string tt.1)
 have hs2:=zat hs1 1 (.string tt.2.1)
 have HS2:=Lib.hid (hs2.trans (show _=some (Obj.cells #[.string tt.1,.string tt.2.1] 23 (0,0)) from rfl))
 have HBF:=Lib.hid (zag (zag (g:=B0) (j:=0) (v:=.string tt.1) hB5 HBE.out) (j:=1) (v:=.string tt.2.1) (g:=B0) HBE.out)
 clear hs1 hs2 hbk hbk5 hba hb1 HD hbx hX
 go_wp2
 refine bodyPost_ret (zas rfl _ _ B0 23 #[.string tt.1,.string tt.2.1] (0,0) _ rfl HS2.out Tryz.underlying23 rfl (by kernel_rfl)) rfl ?_
 exact ⟨rfl,HBF.out⟩
noncomputable def powWhy (x:Rat) (p:Int):Int:=if p < -4096∨4096<p then 1 else if x=0∧p<0 then 8 else if 2400<(max (bl x.num.natAbs) (bl x.den)-1)*p.natAbs then 7 else 0
noncomputable def rat_Pow.f (a0_0 a0_1:ByteArray) (a1:Int):Option (ByteArray×ByteArray×Int):=oneF (fun x=>powWhy x a1) (fun x=>x^a1) a0_0 a0_1
theorem pow_bd {x:Rat} {p:Int} (hx:Bdr 2000 x) (h:p<0→x≠0) (hp:p.natAbs≤4096):Bdr 8192001 (x^p):=by
 obtain ⟨h1,h2⟩:=zpow_parts h
 have e1:∀ {b:Nat},b<2^2000→b^p.natAbs<2^8192001:=fun {b} hb=>by
  have hbd:Bd 2000 (b:Int):=hb
  have:=(hbd.pow (by decide) p.natAbs).mono (show 2000*p.natAbs+1≤8192001 by omega)
  unfold Bd at this
  rwa [←Int.natCast_pow,Int.natAbs_natCast] at this
 have k1:x.num.natAbs<2^2000:=hx.1
 have k2:x.den<2^2000:=hx.2
 refine ⟨?_,?_⟩
 ·show (x^p).num.natAbs<_
  rw [h1]; split
  ·exact e1 k2
  ·exact e1 k1
 ·show (x^p).den<_
  rw [h2]; split
  ·exact e1 k1
  ·exact e1 k2
theorem rat_Pow.calls (a0 a1:ByteArray) (p:Int) (r1 r2:ByteArray) (r3:Int) (w:World) (h:rat_Pow.f a0 a1 p=some (r1,r2,r3)) :
  Calls Tryz.prog 72 #[.agg #[.string a0,.string a1],.int .i64 p] w fun e w'=>e = .returned (.tuple #[.agg #[.string r1,.string r2],.int .i64 r3])∧Below w.heap.size w w':=by
 refine Pow_wrap a0 a1 p w (r1,r2,r3) (fun W B _ _ hB => ?_)
 unfold rat_Pow.f at h
 by_cases hh:∃ x,RR a0 a1 x
 ·obtain ⟨x,hx⟩:=hh
  rw [zcC hx] at h
  rw [←Option.some.inj h]
  refine one_yes a0 a1 x 154 #[.pointer (some ⟨B,0,none⟩)] _ _ W (enters_of Tryz.func154 (by kernel_rfl) rfl) hx ?_ (fun hw => ?_) (n:=8192001) (by decide)
  ·unfold powWhy
   by_cases hp:p < -4096∨4096<p
   ·rw [if_pos hp]; exact Pow_do1 W x p B hB hp _
   ·rw [if_neg hp]
    by_cases hz:x=0∧p<0
    ·rw [if_pos hz]; obtain ⟨rfl,hn⟩:=hz; exact Pow_do8 W p B hB (by omega) _
    ·rw [if_neg hz]
     by_cases hn:p<0
     ·exact Pow_doN W x p p.natAbs (by omega) B hB (by omega) (by omega) (fun e=>hz ⟨e,hn⟩) hx.bd _ rfl
     ·exact Pow_doP W x p p.natAbs (by omega) B hB (by omega) hx.bd _ rfl
  ·unfold powWhy at hw
   by_cases hp:p < -4096∨4096<p
   ·rw [if_pos hp] at hw; cases hw
   ·rw [if_neg hp] at hw
    by_cases hz:x=0∧p<0
    ·rw [if_pos hz] at hw; cases hw
    ·exact pow_bd hx.bd (fun hn e=>hz ⟨e,hn⟩) (by omega)
 ·rw [zc9 hh] at h
  rw [←Option.some.inj h]
  exact one_no a0 a1 154 #[.pointer (some ⟨B,0,none⟩)] W hh
end Go.Proofs.ZQ
end
section
namespace Go.Proofs.ZQ
open Go.RowKit Go.Proofs.ZW.Wa Go.Proofs.ZW.Wb Go.Proofs.ZW.Wc
attribute [local go_sem] zaK zaJ zaU zaT zaG zaF zaM zaL
noncomputable def c2_far.f (a0:ByteArray) (a1:Int):Option (Bool):=if (a0.size:Int)>1 then (if (wrap64 ((wrap64 ((a0.size:Int)-1))*a1))≥600 then (some true) else (if a0.toList=([48]:List UInt8) then (some false) else (if a0.toList=([49]:List UInt8) then (some false) else (some (decide (a1≥2000)))))) else (if a0.toList=([48]:List UInt8) then (some false) else (if a0.toList=([49]:List UInt8) then (some false) else (some (decide (a1≥2000)))))
theorem c2_far.calls (a0:ByteArray) (a1:Int) (r:Bool) (w:World) (h:c2_far.f a0 a1=some r) :
  Calls Tryz.prog 217 #[.string a0,.int .i64 a1] w fun e w'=>e = .returned (.bool r)∧Drawn0 w w':=by
 have H:(if (a0.size:Int)>1 then (if (wrap64 ((wrap64 ((a0.size:Int)-1))*a1))≥600 then (some true) else (if a0.toList=([48]:List UInt8) then (some false) else (if a0.toList=([49]:List UInt8) then (some false) else (some (decide (a1≥2000)))))) else (if a0.toList=([48]:List UInt8) then (some false) else (if a0.toList=([49]:List UInt8) then (some false) else (some (decide (a1≥2000))))))=some r:=h
 clear h
 by_cases c3:(a0.size:Int)>1
 ·rw [if_pos c3] at H
  have c3b0:decide (1<(a0.size:Int))=true:=decide_eq_true c3
  have c3b1:decide (1<a0.size)=true:=decide_eq_true (by omega)
  clear c3
  by_cases c4:(wrap64 ((wrap64 ((a0.size:Int)-1))*a1))≥600
  ·rw [if_pos c4] at H
   have c4b0:decide (600≤(wrap64 ((wrap64 ((a0.size:Int)-1))*a1)))=true:=decide_eq_true c4
   clear c4
   obtain rfl:=Option.some.inj H
   go_enter Tryz.func217,Tryz.ntmps217
   go_wp2
   go_ret
   exact ⟨by first|rfl|(simp; done)|(simp [*]; done),by repeat (first|exact Drawn0.refl _|apply Drawn0.step)⟩
  ·rw [if_neg c4] at H
   have c4b0:decide (600≤(wrap64 ((wrap64 ((a0.size:Int)-1))*a1)))=false:=decide_eq_false c4
   clear c4
   by_cases c5:a0.toList=([48]:List UInt8)
   ·rw [if_pos c5] at H
    have c5b0:(a0.toList == ([48]:List UInt8))=true:=beq_iff_eq.mpr c5
    have c5b1:(a0.toList != ([48]:List UInt8))=false:=bne_eq_false_iff_eq.mpr c5
    clear c5
    obtain rfl:=Option.some.inj H
    go_enter Tryz.func217,Tryz.ntmps217
    go_wp2
    go_ret
    exact ⟨by first|rfl|(simp; done)|(simp [*]; done),by repeat (first|exact Drawn0.refl _|apply Drawn0.step)⟩
   ·rw [if_neg c5] at H
    have c5b0:(a0.toList == ([48]:List UInt8))=false:=beq_eq_false_iff_ne.mpr c5
    have c5b1:(a0.toList != ([48]:List UInt8))=true:=bne_iff_ne.mpr c5
    by_cases c6:a0.toList=([49]:List UInt8)
    ·rw [if_pos c6] at H
     have c6b0:(a0.toList == ([49]:List UInt8))=true:=beq_iff_eq.mpr c6
     have c6b1:(a0.toList != ([49]:List UInt8))=false:=bne_eq_false_iff_eq.mpr c6
     clear c6
     obtain rfl:=Option.some.inj H
     go_enter Tryz.func217,Tryz.ntmps217
     go_wp2
     go_ret
     exact ⟨by first|rfl|(simp; done)|(simp [*]; done),by repeat (first|exact Drawn0.refl _|apply Drawn0.step)⟩
    ·rw [if_neg c6] at H
     have c6b0:(a0.toList == ([49]:List UInt8))=false:=beq_eq_false_iff_ne.mpr c6
     have c6b1:(a0.toList != ([49]:List UInt8))=true:=bne_iff_ne.mpr c6
     obtain rfl:=Option.some.inj H
     go_enter Tryz.func217,Tryz.ntmps217
     go_wp2
     go_ret
     exact ⟨by first|rfl|(simp; done)|(simp [*]; done),by repeat (first|exact Drawn0.refl _|apply Drawn0.step)⟩
 ·rw [if_neg c3] at H
  have c3b0:decide (1<(a0.size:Int))=false:=decide_eq_false c3
  have c3b1:decide (1<a0.size)=false:=decide_eq_false (by omega)
  clear c3
  by_cases c7:a0.toList=([48]:List UInt8)
  ·rw [if_pos c7] at H
   have c7b0:(a0.toList == ([48]:List UInt8))=true:=beq_iff_eq.mpr c7
   have c7b1:(a0.toList != ([48]:List UInt8))=false:=bne_eq_false_iff_eq.mpr c7
   clear c7
   obtain rfl:=Option.some.inj H
   go_enter Tryz.func217,Tryz.ntmps217
   go_wp2
   go_ret
   exact ⟨by first|rfl|(simp; done)|(simp [*]; done),by repeat (first|exact Drawn0.refl _|apply Drawn0.step)⟩
  ·rw [if_neg c7] at H
   have c7b0:(a0.toList == ([48]:List UInt8))=false:=beq_eq_false_iff_ne.mpr c7
   have c7b1:(a0.toList != ([48]:List UInt8))=true:=bne_iff_ne.mpr c7
   by_cases c8:a0.toList=([49]:List UInt8)
   ·rw [if_pos c8] at H
    have c8b0:(a0.toList == ([49]:List UInt8))=true:=beq_iff_eq.mpr c8
    have c8b1:(a0.toList != ([49]:List UInt8))=false:=bne_eq_false_iff_eq.mpr c8
    clear c8
    obtain rfl:=Option.some.inj H
    go_enter Tryz.func217,Tryz.ntmps217
    go_wp2
    go_ret
    exact ⟨by first|rfl|(simp; done)|(simp [*]; done),by repeat (first|exact Drawn0.refl _|apply Drawn0.step)⟩
   ·rw [if_neg c8] at H
    have c8b0:(a0.toList == ([49]:List UInt8))=false:=beq_eq_false_iff_ne.mpr c8
    have c8b1:(a0.toList != ([49]:List UInt8))=true:=bne_iff_ne.mpr c8
    obtain rfl:=Option.some.inj H
    go_enter Tryz.func217,Tryz.ntmps217
    go_wp2
    go_ret
    exact ⟨by first|rfl|(simp; done)|(simp [*]; done),by repeat (first|exact Drawn0.refl _|apply Drawn0.step)⟩
end Go.Proofs.ZQ
end
section
namespace Go.Proofs.ZQ
open Go.RowKit Go.Proofs.ZW.Wa Go.Proofs.ZP Go.Proofs.ZW.Wb Go.Proofs.ZW.Wc
theorem power_walk (s:Bool) (x y p q:ByteArray) (n:Int) (HN:Ans 84 #[.string x,.int .i64 n] (.string p)) (HD:Ans 84 #[.string y,.int .i64 n] (.string q)) :
  Ans 218 #[.agg #[.bool s,.string x,.string y],.int .i64 n] (.agg #[.bool (s && (Int.tmod n 2 == 1)),.string p,.string q]):=by
 intro w
 have HN:=Lib.hid HN
 have HD:=Lib.hid HD
 have hu66:=Tryz.underlying66
 go_enter Tryz.func218,Tryz.ntmps218
 obtain ⟨fa,fr,hba⟩:=fr_two w s false x y ⟨#[]⟩ ⟨#[]⟩
 go_wp2_with fail
 generalize ((w.alloc (.cells #[.bool s,.string x,.string y] 66)).alloc (.cells #[.bool false,.string ⟨#[]⟩,.string ⟨#[]⟩] 66))=W0 at *
 generalize hBe:w.heap.size+1=B0 at *
 have HBE:=Lib.hid (show w.heap.size≤B0∧w.heap.size<B0 by omega)
 have HLE:=Lib.hid (show B0≤W0.heap.size from Nat.le_of_lt (zaq fr))
 have HQ:=Lib.hid (show ∀ W':World,Below W0.heap.size W0 W'→(fun w':World=>w'.cell? ⟨w.heap.size,0,none⟩=some (.bool s)∧w'.cell? ⟨w.heap.size,1,none⟩=some (.string x)∧w'.cell? ⟨w.heap.size,2,none⟩=some (.string y)) W' from fun W' h=>⟨(fa.below h).c0,(fa.below h).c1,(fa.below h).c2⟩)
 have HQS:=Lib.hid (show ∀ (W':World) (u v t:Value),Below W0.heap.size W0 W'→(fun w':World=>w'.cell? ⟨w.heap.size,0,none⟩=some (.bool s)∧w'.cell? ⟨w.heap.size,1,none⟩=some (.string x)∧w'.cell? ⟨w.heap.size,2,none⟩=some (.string y)) (((W'.setCell ⟨B0,0,none⟩ u).setCell ⟨B0,1,none⟩ v).setCell ⟨B0,2,none⟩ t) from fun W' u v t h =>
  have k:=Below.setCell (p:=⟨B0,2,none⟩) (Below.setCell (p:=⟨B0,1,none⟩) (Below.setCell (p:=⟨B0,0,none⟩) (h.mono HLE.out) (Nat.le_refl _) u) (Nat.le_refl _) v) (Nat.le_refl _) t
  ⟨(fa.keep k HBE.out.2).c0,(fa.keep k HBE.out.2).c1,(fa.keep k HBE.out.2).c2⟩)
 dsimp only at HQ HQS
 have HFR:=Lib.hid fr
 have HBA:=Lib.hid hba
 clear fa fr hba hBe
 cases s
 ·(first|(go_region_held (fun w'=>w'.cell? ⟨w.heap.size,0,none⟩=some (.bool false)∧w'.cell? ⟨w.heap.size,1,none⟩=some (.string x)∧w'.cell? ⟨w.heap.size,2,none⟩=some (.string y))
   (first|((with_reducible refine HQS.out _ _ _ _ ?_); repeat (with_reducible first|exact Below.refl _ _|apply zan|apply zab|refine bthen ?_ hb2|refine bthen ?_ hb1))|((with_reducible refine HQ.out _ ?_); repeat (with_reducible first|exact Below.refl _ _|apply zan|apply zab|refine bthen ?_ hb2|refine bthen ?_ hb1)))
   ((first
    | (go_simp; go_at_call 84; (with_reducible change Calls _ _ #[.string x,.int .i64 n] _ _); refine (HN.out _).mono ?_; rintro e w1 ⟨rfl,hb1⟩)
    | (go_simp; go_at_call 84; (with_reducible change Calls _ _ #[.string y,.int .i64 n] _ _); refine (HD.out _).mono ?_; rintro e w2 ⟨rfl,hb2⟩; have fr5:=HFR.out.below (show Below W0.heap.size W0 w2 from by repeat (with_reducible first|exact Below.refl _ _|apply zan|apply zab|refine bthen ?_ hb2|refine bthen ?_ hb1)); have cB0:=fr5.c0; have cB1:=fr5.c1; have cB2:=fr5.c2; have fB0:=zac fr5 0; have fB1:=zac fr5 1; have fB2:=zac fr5 2))))|fail)
  all_goals
   obtain ⟨hF,hBF⟩:=fr_put fr5 (bthen HBA.out (show Below W0.heap.size W0 w2 from by repeat (with_reducible first|exact Below.refl _ _|apply zan|apply zab|refine bthen ?_ hb2|refine bthen ?_ hb1))) HBE.out.1 false p q
   have HF:=Lib.hid hF
   have HBF:=Lib.hid hBF
   clear hF hBF fr5 cB0 cB1 cB2 fB0 fB1 fB2
   go_wp2
   refine bodyPost_ret (results_cell_row rfl _ _ B0 66 #[.bool false,.string p,.string q] (0,0) _ rfl HF.out Tryz.underlying66 rfl (by kernel_rfl)) rfl ?_
   exact ⟨rfl,HBF.out⟩
 ·go_region_held3 (fun w'=>w'.cell? ⟨w.heap.size,0,none⟩=some (.bool true)∧w'.cell? ⟨w.heap.size,1,none⟩=some (.string x)∧w'.cell? ⟨w.heap.size,2,none⟩=some (.string y))
   (first|((with_reducible refine HQS.out _ _ _ _ ?_); repeat (with_reducible first|exact Below.refl _ _|apply zan|apply zab|refine bthen ?_ hb2|refine bthen ?_ hb1))|((with_reducible refine HQ.out _ ?_); repeat (with_reducible first|exact Below.refl _ _|apply zan|apply zab|refine bthen ?_ hb2|refine bthen ?_ hb1)))
   ((first
    | (go_simp; go_at_call 84; (with_reducible change Calls _ _ #[.string x,.int .i64 n] _ _); refine (HN.out _).mono ?_; rintro e w1 ⟨rfl,hb1⟩)
    | (go_simp; go_at_call 84; (with_reducible change Calls _ _ #[.string y,.int .i64 n] _ _); refine (HD.out _).mono ?_; rintro e w2 ⟨rfl,hb2⟩; have fr5:=HFR.out.below (show Below W0.heap.size W0 w2 from by repeat (with_reducible first|exact Below.refl _ _|apply zan|apply zab|refine bthen ?_ hb2|refine bthen ?_ hb1)); have cB0:=fr5.c0; have cB1:=fr5.c1; have cB2:=fr5.c2; have fB0:=zac fr5 0; have fB1:=zac fr5 1; have fB2:=zac fr5 2)))
  obtain ⟨hF,hBF⟩:=fr_put fr5 (bthen HBA.out (show Below W0.heap.size W0 w2 from by repeat (with_reducible first|exact Below.refl _ _|apply zan|apply zab|refine bthen ?_ hb2|refine bthen ?_ hb1))) HBE.out.1 (Int.tmod n 2 == 1) p q
  have HF:=Lib.hid hF
  have HBF:=Lib.hid hBF
  clear hF hBF fr5 cB0 cB1 cB2 fB0 fB1 fB2
  go_wp2
  refine bodyPost_ret (results_cell_row rfl _ _ B0 66 #[.bool (Int.tmod n 2 == 1),.string p,.string q] (0,0) _ rfl HF.out Tryz.underlying66 rfl (by kernel_rfl)) rfl ?_
  exact ⟨rfl,HBF.out⟩
theorem raised_pos (s:Bool) (x y:ByteArray) (n:Int) (hn:0≤n) (b1 b2:Bool) (F0:Bool) (F1 F2:ByteArray) (HF1:Ans 217 #[.string x,.int .i64 n] (.bool b1)) (HF2:Ans 217 #[.string y,.int .i64 n] (.bool b2)) (HP:Ans 218 #[.agg #[.bool s,.string x,.string y],.int .i64 n] (.agg #[.bool F0,.string F1,.string F2])) :
  Ans 162 #[.agg #[.bool s,.string x,.string y],.int .i64 n] (if (b1 || b2)=true then .tuple #[.agg #[.bool false,.string ⟨#[]⟩,.string ⟨#[]⟩],.bool false] else .tuple #[.agg #[.bool F0,.string F1,.string F2],.bool true]):=by
 intro w
 have HF1:=Lib.hid HF1
 have HF2:=Lib.hid HF2
 have HP:=Lib.hid HP
 have hn0:¬ n<0:=by omega
 clear hn
 go_enter Tryz.func162,Tryz.ntmps162
 obtain ⟨fa,fr,hba⟩:=fr_two w s false x y ⟨#[]⟩ ⟨#[]⟩
 go_wp2_with fail
 generalize ((w.alloc (.cells #[.bool s,.string x,.string y] 66)).alloc (.cells #[.bool false,.string ⟨#[]⟩,.string ⟨#[]⟩] 66))=W0 at *
 generalize hBe:w.heap.size+1=B0 at *
 have HBE:=Lib.hid (show w.heap.size≤B0∧w.heap.size<B0 by omega)
 have HFR:=Lib.hid fr
 have HFA:=Lib.hid fa
 have HBA:=Lib.hid hba
 clear fa fr hba hBe
 refine (HF1.out _).mono ?_
 rintro e w1 ⟨rfl,hb1⟩
 cases b1
 ·skip
  have c2:=(HFA.out.below hb1).c2
  go_wp2_with fail
  refine (HF2.out _).mono ?_
  rintro e w2 ⟨rfl,hb2⟩
  have hb2:=bthen hb1 hb2
  clear c2 hb1
  cases b2
  ·have c0:=(HFA.out.below hb2).c0
   have c1:=(HFA.out.below hb2).c1
   have c2:=(HFA.out.below hb2).c2
   go_wp2_with fail
   refine (HP.out _).mono ?_
   rintro e w3 ⟨rfl,hb3⟩
   have hb3:=bthen hb2 hb3
   clear c0 c1 c2 hb2
   have HB2:=Lib.hid hb3
   clear hb3
   have fr5:=HFR.out.below HB2.out
   have cB0:=fr5.c0
   have cB1:=fr5.c1
   have cB2:=fr5.c2
   have fB0:=zac fr5 0
   have fB1:=zac fr5 1
   have fB2:=zac fr5 2
   obtain ⟨hF,hBF⟩:=fr_put fr5 (bthen HBA.out HB2.out) HBE.out.1 F0 F1 F2
   have HF:=Lib.hid hF
   have HBF:=Lib.hid hBF
   clear hF hBF fr5
   go_wp2
   refine bodyPost_ret (zas rfl _ _ B0 66 #[.bool F0,.string F1,.string F2] (0,0) _ rfl HF.out Tryz.underlying66 rfl (by kernel_rfl)) rfl ?_
   exact ⟨rfl,HBF.out⟩
  ·skip
   have HB2:=Lib.hid hb2
   clear hb2
   have fr5:=HFR.out.below HB2.out
   have cB0:=fr5.c0
   have cB1:=fr5.c1
   have cB2:=fr5.c2
   have fB0:=zac fr5 0
   have fB1:=zac fr5 1
   have fB2:=zac fr5 2
   obtain ⟨hF,hBF⟩:=fr_put fr5 (bthen HBA.out HB2.out) HBE.out.1 false ⟨#[]⟩ ⟨#[]⟩
   have HF:=Lib.hid hF
   have HBF:=Lib.hid hBF
   clear hF hBF fr5
   go_wp2
   refine bodyPost_ret (zas rfl _ _ B0 66 #[.bool false,.string ⟨#[]⟩,.string ⟨#[]⟩] (0,0) _ rfl HF.out Tryz.underlying66 rfl (by kernel_rfl)) rfl ?_
   exact ⟨rfl,HBF.out⟩
 ·skip
  have HB2:=Lib.hid hb1
  clear hb1
  have fr5:=HFR.out.below HB2.out
  have cB0:=fr5.c0
  have cB1:=fr5.c1
  have cB2:=fr5.c2
  have fB0:=zac fr5 0
  have fB1:=zac fr5 1
  have fB2:=zac fr5 2
  obtain ⟨hF,hBF⟩:=fr_put fr5 (bthen HBA.out HB2.out) HBE.out.1 false ⟨#[]⟩ ⟨#[]⟩
  have HF:=Lib.hid hF
  have HBF:=Lib.hid hBF
  clear hF hBF fr5
  go_wp2
  refine bodyPost_ret (zas rfl _ _ B0 66 #[.bool false,.string ⟨#[]⟩,.string ⟨#[]⟩] (0,0) _ rfl HF.out Tryz.underlying66 rfl (by kernel_rfl)) rfl ?_
  exact ⟨rfl,HBF.out⟩
theorem raised_neg (s:Bool) (x y:ByteArray) (n:Int) (hn:n<0) (hm : -4096≤n) (m0:Bool) (m1 m2:ByteArray) (F0:Bool) (F1 F2:ByteArray) (ok:Bool) (HO:Ans 160 #[.agg #[.bool s,.string x,.string y]] (.agg #[.bool m0,.string m1,.string m2])) (HR:Ans 162 #[.agg #[.bool m0,.string m1,.string m2],.int .i64 (-n)] (.tuple #[.agg #[.bool F0,.string F1,.string F2],.bool ok])) :
  Ans 162 #[.agg #[.bool s,.string x,.string y],.int .i64 n] (.tuple #[.agg #[.bool F0,.string F1,.string F2],.bool ok]):=by
 intro w
 have HO:=Lib.hid HO
 have HR:=Lib.hid HR
 have hw1:wrap64 (-n) = -n:=by unfold wrap64; omega
 go_enter Tryz.func162,Tryz.ntmps162
 obtain ⟨fa,fr,hba⟩:=fr_two w s false x y ⟨#[]⟩ ⟨#[]⟩
 go_wp2_with fail
 generalize ((w.alloc (.cells #[.bool s,.string x,.string y] 66)).alloc (.cells #[.bool false,.string ⟨#[]⟩,.string ⟨#[]⟩] 66))=W0 at *
 generalize hBe:w.heap.size+1=B0 at *
 have HBE:=Lib.hid (show w.heap.size≤B0∧w.heap.size<B0 by omega)
 have HFR:=Lib.hid fr
 have HFA:=Lib.hid fa
 have HBA:=Lib.hid hba
 clear fa fr hba hBe
 refine (HO.out _).mono ?_
 rintro e w1 ⟨rfl,hb1⟩
 go_wp2_with fail
 refine (HR.out _).mono ?_
 rintro e w2 ⟨rfl,hb2⟩
 have hb2:=bthen hb1 hb2
 clear hb1
 have HB2:=Lib.hid hb2
 clear hb2
 have fr5:=HFR.out.below HB2.out
 have cB0:=fr5.c0
 have cB1:=fr5.c1
 have cB2:=fr5.c2
 have fB0:=zac fr5 0
 have fB1:=zac fr5 1
 have fB2:=zac fr5 2
 obtain ⟨hF,hBF⟩:=fr_put fr5 (bthen HBA.out HB2.out) HBE.out.1 F0 F1 F2
 have HF:=Lib.hid hF
 have HBF:=Lib.hid hBF
 clear hF hBF fr5
 go_wp2
 refine bodyPost_ret (zas rfl _ _ B0 66 #[.bool F0,.string F1,.string F2] (0,0) _ rfl HF.out Tryz.underlying66 rfl (by kernel_rfl)) rfl ?_
 exact ⟨rfl,HBF.out⟩
theorem pow_no (a0 a1:ByteArray) (n:Int) (HA:Ans 36 #[.agg #[.string a0,.string a1]] (.bool false)):Ans 79 #[.agg #[.string a0,.string a1],.int .i64 n] (.tuple #[.agg #[.string ⟨#[]⟩,.string ⟨#[]⟩],.int .i64 3]):=by
 intro w
 have HA:=Lib.hid HA
 go_enter Tryz.func79,Tryz.ntmps79
 obtain ⟨fa,fr,hba⟩:=zdq w a0 a1 ⟨#[]⟩ ⟨#[]⟩
 go_wp2_with fail
 generalize ((w.alloc (.cells #[.string a0,.string a1] 23)).alloc (.cells #[.string ⟨#[]⟩,.string ⟨#[]⟩] 23))=W0 at *
 generalize hBe:w.heap.size+1=B0 at *
 have HBE:=Lib.hid (show w.heap.size≤B0∧w.heap.size<B0 by omega)
 have HFR:=Lib.hid fr
 have HFA:=Lib.hid fa
 have HBA:=Lib.hid hba
 clear fa fr hba hBe
 refine (HA.out _).mono ?_
 rintro e w1 ⟨rfl,hb1⟩
 have HB2:=Lib.hid hb1
 clear hb1
 have fr5:=HFR.out.below HB2.out
 have cB0:=fr5.c0
 have cB1:=fr5.c1
 have fB0:=zac fr5 0
 have fB1:=zac fr5 1
 obtain ⟨hF,hBF⟩:=zbg fr5 (bthen HBA.out HB2.out) HBE.out.1 ⟨#[]⟩ ⟨#[]⟩
 have HF:=Lib.hid hF
 have HBF:=Lib.hid hBF
 clear hF hBF fr5
 go_wp2
 refine bodyPost_ret (zas rfl _ _ B0 23 #[.string ⟨#[]⟩,.string ⟨#[]⟩] (0,0) _ rfl HF.out Tryz.underlying23 rfl (by kernel_rfl)) rfl ?_
 exact ⟨rfl,HBF.out⟩
theorem pow_arg (a0 a1:ByteArray) (n:Int) (hn:n < -4096∨4096<n) (HA:Ans 36 #[.agg #[.string a0,.string a1]] (.bool true)):Ans 79 #[.agg #[.string a0,.string a1],.int .i64 n] (.tuple #[.agg #[.string ⟨#[]⟩,.string ⟨#[]⟩],.int .i64 1]):=by
 intro w
 have HA:=Lib.hid HA
 have hn:=Lib.hid hn
 go_enter Tryz.func79,Tryz.ntmps79
 obtain ⟨fa,fr,hba⟩:=zdq w a0 a1 ⟨#[]⟩ ⟨#[]⟩
 go_wp2_with fail
 generalize ((w.alloc (.cells #[.string a0,.string a1] 23)).alloc (.cells #[.string ⟨#[]⟩,.string ⟨#[]⟩] 23))=W0 at *
 generalize hBe:w.heap.size+1=B0 at *
 have HBE:=Lib.hid (show w.heap.size≤B0∧w.heap.size<B0 by omega)
 have HFR:=Lib.hid fr
 have HFA:=Lib.hid fa
 have HBA:=Lib.hid hba
 clear fa fr hba hBe
 refine (HA.out _).mono ?_
 rintro e w1 ⟨rfl,hb1⟩
 by_cases hl:n < -4096
 ·skip
  have HB2:=Lib.hid hb1
  clear hb1
  have fr5:=HFR.out.below HB2.out
  have cB0:=fr5.c0
  have cB1:=fr5.c1
  have fB0:=zac fr5 0
  have fB1:=zac fr5 1
  obtain ⟨hF,hBF⟩:=zbg fr5 (bthen HBA.out HB2.out) HBE.out.1 ⟨#[]⟩ ⟨#[]⟩
  have HF:=Lib.hid hF
  have HBF:=Lib.hid hBF
  clear hF hBF fr5
  go_wp2
  refine bodyPost_ret (zas rfl _ _ B0 23 #[.string ⟨#[]⟩,.string ⟨#[]⟩] (0,0) _ rfl HF.out Tryz.underlying23 rfl (by kernel_rfl)) rfl ?_
  exact ⟨rfl,HBF.out⟩
 ·have hg:n>4096:=by have:=hn.out; omega
  have HB2:=Lib.hid hb1
  clear hb1
  have fr5:=HFR.out.below HB2.out
  have cB0:=fr5.c0
  have cB1:=fr5.c1
  have fB0:=zac fr5 0
  have fB1:=zac fr5 1
  obtain ⟨hF,hBF⟩:=zbg fr5 (bthen HBA.out HB2.out) HBE.out.1 ⟨#[]⟩ ⟨#[]⟩
  have HF:=Lib.hid hF
  have HBF:=Lib.hid hBF
  clear hF hBF fr5
  go_wp2
  refine bodyPost_ret (zas rfl _ _ B0 23 #[.string ⟨#[]⟩,.string ⟨#[]⟩] (0,0) _ rfl HF.out Tryz.underlying23 rfl (by kernel_rfl)) rfl ?_
  exact ⟨rfl,HBF.out⟩
theorem pow_zero (a0 a1:ByteArray) (n:Int) (hl : -4096≤n) (hn:n<0) (hz:a0.toList=([48]:List UInt8)) (HA:Ans 36 #[.agg #[.string a0,.string a1]] (.bool true)):Ans 79 #[.agg #[.string a0,.string a1],.int .i64 n] (.tuple #[.agg #[.string ⟨#[]⟩,.string ⟨#[]⟩],.int .i64 8]):=by
 intro w
 have HA:=Lib.hid HA
 have hz:(a0.toList == ([48]:List UInt8))=true:=by simpa using hz
 have hl:¬ n < -4096:=by omega
 have hg:¬ n>4096:=by omega
 go_enter Tryz.func79,Tryz.ntmps79
 obtain ⟨fa,fr,hba⟩:=zdq w a0 a1 ⟨#[]⟩ ⟨#[]⟩
 go_wp2_with fail
 generalize ((w.alloc (.cells #[.string a0,.string a1] 23)).alloc (.cells #[.string ⟨#[]⟩,.string ⟨#[]⟩] 23))=W0 at *
 generalize hBe:w.heap.size+1=B0 at *
 have HBE:=Lib.hid (show w.heap.size≤B0∧w.heap.size<B0 by omega)
 have HFR:=Lib.hid fr
 have HFA:=Lib.hid fa
 have HBA:=Lib.hid hba
 clear fa fr hba hBe
 refine (HA.out _).mono ?_
 rintro e w1 ⟨rfl,hb1⟩
 have c0:=(HFA.out.below hb1).c0
 have HB2:=Lib.hid hb1
 clear hb1
 have fr5:=HFR.out.below HB2.out
 have cB0:=fr5.c0
 have cB1:=fr5.c1
 have fB0:=zac fr5 0
 have fB1:=zac fr5 1
 obtain ⟨hF,hBF⟩:=zbg fr5 (bthen HBA.out HB2.out) HBE.out.1 ⟨#[]⟩ ⟨#[]⟩
 have HF:=Lib.hid hF
 have HBF:=Lib.hid hBF
 clear hF hBF fr5
 go_wp2
 refine bodyPost_ret (zas rfl _ _ B0 23 #[.string ⟨#[]⟩,.string ⟨#[]⟩] (0,0) _ rfl HF.out Tryz.underlying23 rfl (by kernel_rfl)) rfl ?_
 exact ⟨rfl,HBF.out⟩
theorem pow_far (a0 a1:ByteArray) (n:Int) (hl : -4096≤n) (hg:n≤4096) (hz:n<0→a0.toList≠([48]:List UInt8)) (x0:Bool) (x1 x2:ByteArray) (f0:Bool) (f1 f2:ByteArray) (HA:Ans 36 #[.agg #[.string a0,.string a1]] (.bool true)) (HX:Ans 61 #[.agg #[.string a0,.string a1]] (.agg #[.bool x0,.string x1,.string x2])) (HR:Ans 162 #[.agg #[.bool x0,.string x1,.string x2],.int .i64 n] (.tuple #[.agg #[.bool f0,.string f1,.string f2],.bool false])):Ans 79 #[.agg #[.string a0,.string a1],.int .i64 n] (.tuple #[.agg #[.string ⟨#[]⟩,.string ⟨#[]⟩],.int .i64 7]):=by
 intro w
 have HA:=Lib.hid HA
 have HX:=Lib.hid HX
 have HR:=Lib.hid HR
 have hl':¬ n < -4096:=by omega
 have hg':¬ n>4096:=by omega
 have hz:=Lib.hid hz
 clear hl hg
 go_enter Tryz.func79,Tryz.ntmps79
 obtain ⟨fa,fr,hba⟩:=zdq w a0 a1 ⟨#[]⟩ ⟨#[]⟩
 go_wp2_with fail
 generalize ((w.alloc (.cells #[.string a0,.string a1] 23)).alloc (.cells #[.string ⟨#[]⟩,.string ⟨#[]⟩] 23))=W0 at *
 generalize hBe:w.heap.size+1=B0 at *
 have HBE:=Lib.hid (show w.heap.size≤B0∧w.heap.size<B0 by omega)
 have HFR:=Lib.hid fr
 have HFA:=Lib.hid fa
 have HBA:=Lib.hid hba
 clear fa fr hba hBe
 refine (HA.out _).mono ?_
 rintro e w1 ⟨rfl,hb1⟩
 have c0:=(HFA.out.below hb1).c0
 have c1:=(HFA.out.below hb1).c1
 have HB1:=Lib.hid hb1
 clear hb1
 have hzn:n<0∨¬ n<0:=Classical.em _
 rcases hzn with hn|hn
 all_goals
  first
  | (have hzb:(a0.toList == ([48]:List UInt8))=false:=by (have:=hz.out hn; simpa using this))
  | skip
  go_wp2_with fail
  refine (HX.out _).mono ?_
  rintro e w2 ⟨rfl,hb2⟩
  have hb2:=bthen HB1.out hb2
  go_wp2_with fail
  refine (HR.out _).mono ?_
  rintro e w3 ⟨rfl,hb3⟩
  have hb3:=bthen hb2 hb3
  clear hb2
  have hb4:=bthen hb3 (zaa (Below.refl _ _) (.cells #[.bool f0,.string f1,.string f2] 66))
  have HB2:=Lib.hid hb4
  clear hb4
  have fr5:=HFR.out.below HB2.out
  have cB0:=fr5.c0
  have cB1:=fr5.c1
  have fB0:=zac fr5 0
  have fB1:=zac fr5 1
  obtain ⟨hF,hBF⟩:=zbg fr5 (bthen HBA.out HB2.out) HBE.out.1 ⟨#[]⟩ ⟨#[]⟩
  have HF:=Lib.hid hF
  have HBF:=Lib.hid hBF
  clear hF hBF fr5
  go_wp2
  refine bodyPost_ret (zas rfl _ _ B0 23 #[.string ⟨#[]⟩,.string ⟨#[]⟩] (0,0) _ rfl HF.out Tryz.underlying23 rfl (by kernel_rfl)) rfl ?_
  exact ⟨rfl,HBF.out⟩
theorem pow_ok (a0 a1:ByteArray) (n:Int) (hl : -4096≤n) (hg:n≤4096) (hz:n<0→a0.toList≠([48]:List UInt8)) (x0:Bool) (x1 x2:ByteArray) (f0:Bool) (f1 f2:ByteArray) (t1 t2:ByteArray) (t3:Int) (HA:Ans 36 #[.agg #[.string a0,.string a1]] (.bool true)) (HX:Ans 61 #[.agg #[.string a0,.string a1]] (.agg #[.bool x0,.string x1,.string x2])) (HR:Ans 162 #[.agg #[.bool x0,.string x1,.string x2],.int .i64 n] (.tuple #[.agg #[.bool f0,.string f1,.string f2],.bool true])) (HT:Ans 110 #[.agg #[.bool f0,.string f1,.string f2]] (.tuple #[.agg #[.string t1,.string t2],.int .i64 t3])):Ans 79 #[.agg #[.string a0,.string a1],.int .i64 n] (.tuple #[.agg #[.string t1,.string t2],.int .i64 t3]):=by
 intro w
 have HA:=Lib.hid HA
 have HX:=Lib.hid HX
 have HR:=Lib.hid HR
 have HT:=Lib.hid HT
 have hl':¬ n < -4096:=by omega
 have hg':¬ n>4096:=by omega
 have hz:=Lib.hid hz
 clear hl hg
 go_enter Tryz.func79,Tryz.ntmps79
 obtain ⟨fa,fr,hba⟩:=zdq w a0 a1 ⟨#[]⟩ ⟨#[]⟩
 go_wp2_with fail
 generalize ((w.alloc (.cells #[.string a0,.string a1] 23)).alloc (.cells #[.string ⟨#[]⟩,.string ⟨#[]⟩] 23))=W0 at *
 generalize hBe:w.heap.size+1=B0 at *
 have HBE:=Lib.hid (show w.heap.size≤B0∧w.heap.size<B0 by omega)
 have HFR:=Lib.hid fr
 have HFA:=Lib.hid fa
 have HBA:=Lib.hid hba
 clear fa fr hba hBe
 refine (HA.out _).mono ?_
 rintro e w1 ⟨rfl,hb1⟩
 have c0:=(HFA.out.below hb1).c0
 have c1:=(HFA.out.below hb1).c1
 have HB1:=Lib.hid hb1
 clear hb1
 have hzn:n<0∨¬ n<0:=Classical.em _
 rcases hzn with hn|hn
 all_goals
  first
  | (have hzb:(a0.toList == ([48]:List UInt8))=false:=by (have:=hz.out hn; simpa using this))
  | skip
  go_wp2_with fail
  refine (HX.out _).mono ?_
  rintro e w2 ⟨rfl,hb2⟩
  have hb2:=bthen HB1.out hb2
  go_wp2_with fail
  refine (HR.out _).mono ?_
  rintro e w3 ⟨rfl,hb3⟩
  have hb3:=bthen hb2 hb3
  clear hb2
  have hb4:=bthen hb3 (zaa (Below.refl _ _) (.cells #[.bool f0,.string f1,.string f2] 66))
  have ff:=FrAt.new w3 f0 f1 f2
  have q0:=ff.c0
  have q1:=ff.c1
  have q2:=ff.c2
  go_wp2_with fail
  refine (HT.out _).mono ?_
  rintro e w5 ⟨rfl,hb5⟩
  have hb5:=bthen hb4 hb5
  clear hb4 hb3 ff q0 q1 q2
  have HB2:=Lib.hid hb5
  clear hb5
  have fr5:=HFR.out.below HB2.out
  have cB0:=fr5.c0
  have cB1:=fr5.c1
  have fB0:=zac fr5 0
  have fB1:=zac fr5 1
  obtain ⟨hF,hBF⟩:=zbg fr5 (bthen HBA.out HB2.out) HBE.out.1 t1 t2
  have HF:=Lib.hid hF
  have HBF:=Lib.hid hBF
  clear hF hBF fr5
  go_wp2
  refine bodyPost_ret (zas rfl _ _ B0 23 #[.string t1,.string t2] (0,0) _ rfl HF.out Tryz.underlying23 rfl (by kernel_rfl)) rfl ?_
  exact ⟨rfl,HBF.out⟩
end Go.Proofs.ZQ
end
section
namespace Go.Proofs.ZQ
open Go.RowKit Go.Proofs.ZW.Wa Go.Proofs.ZP
theorem far_f (m k:Nat) (hk:k≤4096) (hm:(T m).size≤600):∃ b,c2_far.f (T m) (k:Int)=some b∧(b=true→10^600≤m^k):=by
 unfold c2_far.f
 have hs:1≤(T m).size:=by rw [zb4]; exact za7 m
 have hP:((T m).size-1)*k≤600*4096:=Nat.mul_le_mul (by omega) hk
 have e1:wrap64 (((T m).size:Int)-1)=(((T m).size-1:Nat):Int):=by unfold wrap64; omega
 have e2:wrap64 ((((T m).size-1:Nat):Int)*(k:Int))=((((T m).size-1)*k:Nat):Int):=by
  rw [←Int.natCast_mul]; generalize ((T m).size-1)*k=P at *; unfold wrap64; omega
 rw [e1,e2]
 have h49:(T m).toList=([49]:List UInt8)↔m=1:=by
  have h:=b49 (s:=T m)
  constructor
  ·intro e
   have h3:decide (T m=T 1)=true:=by rw [←h,e]; rfl
   exact T_inj (of_decide_eq_true h3)
  ·intro e
   have h3:=h.trans (decide_eq_true (by rw [e]))
   simpa using h3
 have last:∃ b,(if (T m).toList=([48]:List UInt8) then (some false) else (if (T m).toList=([49]:List UInt8) then (some false) else (some (decide ((k:Int)≥2000)))))=some b∧(b=true→10^600≤m^k):=by
  by_cases h0:(T m).toList=([48]:List UInt8)
  ·exact ⟨_,if_pos h0,fun e=>by cases e⟩
  ·rw [if_neg h0]
   by_cases h1:(T m).toList=([49]:List UInt8)
   ·exact ⟨_,if_pos h1,fun e=>by cases e⟩
   ·rw [if_neg h1]
    refine ⟨_,rfl,fun e => ?_⟩
    have hk2:(k:Int)≥2000:=of_decide_eq_true e
    have hm0:m≠0:=fun e=>h0 (T_is0.2 e)
    have hm1:m≠1:=fun e=>h1 (h49.2 e)
    exact two_far (m:=1) (by omega) (by omega)
 by_cases hgt:((T m).size:Int)>1
 ·rw [if_pos hgt]
  by_cases h6:((((T m).size-1)*k:Nat):Int)≥600
  ·rw [if_pos h6]
   refine ⟨_,rfl,fun _ => ?_⟩
   have h:=fun e=>Nat.not_le.2 (show (T m).size-1<(T m).size by omega) ((zaz (k:=(T m).size-1) (n:=m) (by omega)).2 e)
   exact ten_far (Nat.not_lt.1 h) (by omega)
  ·rw [if_neg h6]; exact last
 ·rw [if_neg hgt]; exact last
theorem far_ans {a0:ByteArray} {a1:Int} {r:Bool} (h:c2_far.f a0 a1=some r):Ans 217 #[.string a0,.int .i64 a1] (.bool r):=fun W =>
 (c2_far.calls a0 a1 r W h).mono fun e w' ⟨he,hd⟩=>⟨he,hd.below⟩
theorem power_ans {m k:Nat} (hk:k≤4096) (hm:(T m).size≤600):Ans 84 #[.string (T m),.int .i64 k] (.string (T (m^k))):=fun W=>by
 refine c1_Power.calls (T m) k (T (m^k)) W ?_
 have h1:4*(T m).size*k+1≤137438953472:=by
  have:=Nat.mul_le_mul (show 4*(T m).size≤2400 by omega) hk
  omega
 unfold c1_Power.f
 rw [zdw (by omega)]
 show (if _ then _ else _)=_
 rw [if_pos ⟨by omega,by omega,by rw [Int.toNat_natCast]; exact h1⟩,Int.toNat_natCast]
theorem big_no {x:Rat} (h:10^600≤x.num.natAbs∨10^600≤x.den):toldR x=(⟨#[]⟩,⟨#[]⟩,7):=by
 unfold toldR
 exact if_neg (fun h2=>by rcases h with h|h; exact absurd h2.1 (Nat.not_lt.2 h); exact absurd h2.2 (Nat.not_lt.2 h))
theorem raised_nat {x:Rat} {k:Nat} (hx:Sz 600 x) (hk:k≤4096):∃ (ok:Bool) (F0:Bool) (F1 F2:ByteArray),Ans 162 #[FrV x,.int .i64 k] (.tuple #[.agg #[.bool F0,.string F1,.string F2],.bool ok])∧(ok=true→(F0,F1,F2)=Fr (x^(k:Int)))∧(ok=false→toldR (x^(k:Int))=(⟨#[]⟩,⟨#[]⟩,7)):=by
 obtain ⟨b1,h1,g1⟩:=far_f x.num.natAbs k hk hx.1
 obtain ⟨b2,h2,g2⟩:=far_f x.den k hk hx.2
 obtain ⟨p1,p2⟩:=zpow_parts (x:=x) (p:=(k:Int)) (fun e=>by omega)
 rw [if_neg (by omega),Int.natAbs_natCast] at p1 p2
 have hR:=raised_pos (decide (x.num<0)) (T x.num.natAbs) (T x.den) (k:Int) (by omega) b1 b2 _ _ _ (far_ans h1) (far_ans h2) (power_walk _ _ _ _ _ _ (power_ans hk hx.1) (power_ans hk hx.2))
 cases hb:(b1 || b2)
 ·rw [hb] at hR
  refine ⟨true,_,_,_,hR,fun _ => ?_,fun e=>by cases e⟩
  unfold Fr
  rw [p1,p2]
  refine congrArg (fun b=>(b,T (x.num.natAbs^k),T (x.den^k))) ?_
  rw [Rat.zpow_natCast,Rat.num_pow]
  have e2:Int.tmod (k:Int) 2=((k%2:Nat):Int):=by rw [Int.tmod_eq_emod_of_nonneg (by omega)]; rfl
  rw [e2]
  by_cases hn:x.num<0
  ·rw [decide_eq_true hn,Bool.true_and]
   have:=neg_pow x.num hn k
   by_cases ho:k%2=1
   ·rw [decide_eq_true (this.2 ho),ho]; rfl
   ·rw [decide_eq_false (fun e=>ho (this.1 e)),show k%2=0 by omega]; rfl
  ·rw [decide_eq_false hn,decide_eq_false (pos_pow x.num (by omega) k)]; rfl
 ·rw [hb] at hR
  refine ⟨false,_,_,_,hR,fun e=>by (cases e),fun _=>big_no ?_⟩
  rw [p1,p2]
  cases b1
  ·exact Or.inr (g2 (by simpa using hb))
  ·exact Or.inl (g1 rfl)
theorem inv_pow (x:Rat):∀ k:Nat,x⁻¹^k=(x^k)⁻¹
 | 0=>by
  rw [Rat.pow_zero,Rat.pow_zero]
  have h:=Rat.mul_inv_cancel 1 (by decide)
  rw [Rat.one_mul] at h
  exact h.symm
 | k+1=>by rw [Rat.pow_succ,Rat.pow_succ,inv_pow x k,Rat.inv_mul_rev,Rat.mul_comm]
theorem raised_ans {x:Rat} {p:Int} (hx:Sz 600 x) (hp : -4096≤p∧p≤4096) (h:p<0→x≠0):∃ (ok:Bool) (F0:Bool) (F1 F2:ByteArray),Ans 162 #[FrV x,.int .i64 p] (.tuple #[.agg #[.bool F0,.string F1,.string F2],.bool ok])∧(ok=true→(F0,F1,F2)=Fr (x^p))∧(ok=false→toldR (x^p)=(⟨#[]⟩,⟨#[]⟩,7)):=by
 by_cases hn:p<0
 ·obtain ⟨k,hk⟩:∃ k:Nat,p = -(k:Int):=⟨p.natAbs,by omega⟩
  obtain ⟨ok,F0,F1,F2,h1,h2,h3⟩:=raised_nat (x:=x⁻¹) (k:=k) (inv_sz (h hn) hx) (by omega)
  have e:x⁻¹^(k:Int)=x^p:=by rw [hk,Rat.zpow_neg,Rat.zpow_natCast,Rat.zpow_natCast,inv_pow]
  rw [e] at h2 h3
  refine ⟨ok,F0,F1,F2,?_,h2,h3⟩
  have hk2 : -p=(k:Int):=by omega
  exact raised_neg _ _ _ p hn (by omega) _ _ _ F0 F1 F2 ok (over_ans (h hn)) (by rw [hk2]; exact h1)
 ·obtain ⟨k,hk⟩:∃ k:Nat,p=(k:Int):=⟨p.natAbs,by omega⟩
  rw [hk]
  exact raised_nat hx (by omega)
theorem pow_ans (a0 a1:ByteArray) (p:Int) (r1 r2:ByteArray) (r3:Int) (h:rat_Pow.f a0 a1 p=some (r1,r2,r3)):Ans 79 #[.agg #[.string a0,.string a1],.int .i64 p] (.tuple #[.agg #[.string r1,.string r2],.int .i64 r3]):=by
 unfold rat_Pow.f at h
 by_cases ha:∃ x,RR a0 a1 x
 ·obtain ⟨x,hx⟩:=ha
  rw [zcC hx] at h
  unfold powWhy at h
  by_cases hp:p < -4096∨4096<p
  ·rw [if_pos hp] at h; cases h
   exact pow_arg a0 a1 p hp (zax hx)
  ·rw [if_neg hp] at h
   by_cases hz:x=0∧p<0
   ·rw [if_pos hz] at h; cases h
    exact pow_zero a0 a1 p (by omega) hz.2 ((rr_zero hx).2 hz.1) (zax hx)
   ·rw [if_neg hz] at h
    have h0:p<0→x≠0:=fun hn e=>hz ⟨e,hn⟩
    have hT:toldR (x^p)=(r1,r2,r3):=by
     by_cases hl:2400<(max (bl x.num.natAbs) (bl x.den)-1)*p.natAbs
     ·rw [if_pos hl] at h
      rw [←Option.some.inj h]
      refine (big_no ?_).trans (if_neg (by decide)).symm
      obtain ⟨p1,p2⟩:=zpow_parts h0
      rw [p1,p2]
      have hb:∀ Y:Nat,2400<(bl Y-1)*p.natAbs→10^600≤Y^p.natAbs:=fun Y hY=>by
       have h1:1≤bl Y:=by rcases Nat.eq_zero_or_pos (bl Y) with e|e; (rw [e] at hY; omega); exact e
       exact two_far ((bl_spec Y).2 (bl Y-1) (by omega)).1 (by omega)
      have hor:10^600≤x.num.natAbs^p.natAbs∨10^600≤x.den^p.natAbs:=by
       rcases Nat.le_total (bl x.num.natAbs) (bl x.den) with hle|hle
       ·rw [Nat.max_eq_right hle] at hl; exact Or.inr (hb _ hl)
       ·rw [Nat.max_eq_left hle] at hl; exact Or.inl (hb _ hl)
      by_cases hn:p<0
      ·rw [if_pos hn,if_pos hn]; exact hor.symm
      ·rw [if_neg hn,if_neg hn]; exact hor
     ·rw [if_neg hl,tell_ok] at h
      exact Option.some.inj h
    obtain ⟨ok,F0,F1,F2,hR,hy,hno⟩:=raised_ans (rr_sz hx) (show -4096≤p∧p≤4096 by omega) h0
    have hz2:p<0→a0.toList≠([48]:List UInt8):=fun hn e=>h0 hn ((rr_zero hx).1 e)
    cases ok
    ·rw [hno rfl] at hT; cases hT
     exact pow_far a0 a1 p (by omega) (by omega) hz2 _ _ _ F0 F1 F2 (zax hx) (zbH hx) hR
    ·have e:=hy rfl
     have h1:=zcS (x^p)
     rw [hT] at h1
     unfold FrV at h1
     rw [←e] at h1
     exact pow_ok a0 a1 p (by omega) (by omega) hz2 _ _ _ F0 F1 F2 r1 r2 r3 (zax hx) (zbH hx) hR h1
 ·rw [zc9 ha] at h
  cases h
  exact pow_no a0 a1 p (zaC ha)
end Go.Proofs.ZQ
end
