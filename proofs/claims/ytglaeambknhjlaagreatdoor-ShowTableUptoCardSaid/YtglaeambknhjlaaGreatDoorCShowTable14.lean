/- Texts under the proof, joined by a program (prune.py): QPairs, Q221, Q222, Q118, Q119, Q97, QFracOf, QShow3, QShow4, QShow5, QShow6, QShow7, QShow8, Q120, Q124, LawShowNumbers, LawShowTable. -/
import Derived.Test.YtglaeambknhjlaaGreatDoorCShowTable13
import Derived.Test.YtglaeambknhjlaaGreatDoorCShowTable01
import Derived.Test.YtglaeambknhjlaaGreatDoorCShowTable12
import Derived.Deep.CutRange
import Derived.Test.YtglaeambknhjlaaGreatDoorCShowTable03
import Derived.Test.YtglaeambknhjlaaGreatDoorCShowTable05
set_option linter.unusedVariables false
set_option linter.unusedSimpArgs false
set_option exponentiation.threshold 20001
set_option maxHeartbeats 8000000
set_option maxRecDepth 100000
section
namespace Go.Proofs.YtglaeambknhjlaaGreatDoor.Q
open Go.RowKit Go.Proofs.YtglaeambknhjlaaGreatDoorW.PrintWords Go.Proofs.YtglaeambknhjlaaGreatDoor.P
structure St4 (w W:World) (A B X Y:Nat) (a0 a1 b0 b1 x0 x1 y0 y1:ByteArray):Prop where
 a:RbAt W A a0 a1
 b:RbAt W B b0 b1
 x:RbAt W X x0 x1
 y:RbAt W Y y0 y1
 hb:Below w.heap.size w W
 d:w.heap.size≤X∧A<X∧B<X∧X<Y
theorem St4.call {w W W':World} {A B X Y:Nat} {a0 a1 b0 b1 x0 x1 y0 y1:ByteArray} (h:St4 w W A B X Y a0 a1 b0 b1 x0 x1 y0 y1) (k:Below W.heap.size W W'):St4 w W' A B X Y a0 a1 b0 b1 x0 x1 y0 y1:=
 ⟨h.a.below k,h.b.below k,h.x.below k,h.y.below k,bthen h.hb k,h.d⟩
end Go.Proofs.YtglaeambknhjlaaGreatDoor.Q
end
section
namespace Go.Proofs.YtglaeambknhjlaaGreatDoor.Q
open Go.RowKit Go.Proofs.YtglaeambknhjlaaGreatDoorW.PrintWords Go.Proofs.YtglaeambknhjlaaGreatDoorW.PrintLast Go.Proofs.YtglaeambknhjlaaGreatDoorW.PrintMore
attribute [local go_sem] max2_int min2_int max_two min_two max_three min_three max_four min_four
noncomputable def cubitref02_Rounded.f (a0_0:Bool) (a0_1:ByteArray) (a0_2:ByteArray) (a1:Int):Option (Bool×ByteArray×ByteArray):=(cubitref02_Steps.f a0_0 a0_1 a0_2 a1).bind fun t841=>(if a1≥0 then ((cubitref02_Zeros.f a1).bind fun t842=>(if 1+t842.size≤9223372036854775807 then ((cubitref02_Lowest.f a0_0 t841 ((⟨#[49]⟩:ByteArray)++t842)).bind fun bt843=>(some (bt843.1,bt843.2.1,bt843.2.2))) else (none))) else ((cubitref02_Zeros.f (wrap64 (-a1))).bind fun t846=>(if 1+t846.size≤9223372036854775807 then ((cubitref01_Times.f t841 ((⟨#[49]⟩:ByteArray)++t846)).bind fun t847=>((cubitref02_Lowest.f a0_0 t847 (⟨#[49]⟩:ByteArray)).bind fun bt848=>(some (bt848.1,bt848.2.1,bt848.2.2)))) else (none))))
noncomputable def cubitref02_Round.j0:Nat→Int→Bool→ByteArray→ByteArray→Option (ByteArray×ByteArray×Int)
 | 0,_,_,_,_=>none
 | k+1,x1,x15,x852000,x852001=>if x15=true then (some ((⟨#[]⟩:ByteArray),(⟨#[]⟩:ByteArray),1)) else ((cubitref02_Read.f k x852000 x852001).bind fun bt854=>((cubitref02_Rounded.f bt854.1 bt854.2.1 bt854.2.2 x1).bind fun bt857=>((cubitref02_Told.f k bt857.1 bt857.2.1 bt857.2.2).bind fun bt860=>(some (bt860.1,bt860.2.1,bt860.2.2)))))
noncomputable def cubitref02_Round.f (k:Nat) (a0_0:ByteArray) (a0_1:ByteArray) (a1:Int):Option (ByteArray×ByteArray×Int):=(cubitref02_Right.f k a0_0 a0_1).bind fun t853=>(if t853=true then (if a1<(-600) then (cubitref02_Round.j0 k a1 true a0_0 a0_1) else (cubitref02_Round.j0 k a1 (decide (a1>600)) a0_0 a0_1)) else (some ((⟨#[]⟩:ByteArray),(⟨#[]⟩:ByteArray),3)))
noncomputable def cubitref25_ten.f (a0:Int):Option (Bool×ByteArray×ByteArray):=if a0<0 then ((cubitref01_Power.f (⟨#[49,48]⟩:ByteArray) (wrap64 (-a0))).bind fun t340=>(some (false,(⟨#[49]⟩:ByteArray),t340))) else ((cubitref01_Power.f (⟨#[49,48]⟩:ByteArray) a0).bind fun t341=>(some (false,t341,(⟨#[49]⟩:ByteArray))))
noncomputable def cubitref25_exponent.l0:Nat→Int→Bool→ByteArray→ByteArray→Option (Int)
 | 0,_,_,_,_=>none
 | k+1,x3,x343000,x343001,x343002=>(cubitref25_ten.f x3).bind fun bt343=>((cubitref01_FCmp.f x343000 x343001 x343002 bt343.1 bt343.2.1 bt343.2.2).bind fun t346=>(if t346≥0 then (some x3) else (cubitref25_exponent.l0 k (wrap64 (x3-1)) x343000 x343001 x343002)))
noncomputable def cubitref25_exponent.f (k:Nat) (a0_0:Bool) (a0_1:ByteArray) (a0_2:ByteArray):Option (Int):=cubitref25_exponent.l0 k (wrap64 ((a0_1.size:Int)-(a0_2.size:Int))) a0_0 a0_1 a0_2
noncomputable def cubitref01_Whole.f (a0:Int):Option (Bool×ByteArray×ByteArray):=if a0<0 then ((cubitref01_Of.f (IntKind.u64.wrap (wrap64 (-(wrap64 (a0+1)))))).bind fun t233=>((cubitref01_Plus.f t233 (⟨#[49]⟩:ByteArray)).bind fun t234=>(some (true,t234,(⟨#[49]⟩:ByteArray))))) else ((cubitref01_Of.f (IntKind.u64.wrap (a0))).bind fun t235=>(some (false,t235,(⟨#[49]⟩:ByteArray))))
end Go.Proofs.YtglaeambknhjlaaGreatDoor.Q
end
section
namespace Go.Proofs.YtglaeambknhjlaaGreatDoor.Q
open Go.RowKit Go.Proofs.YtglaeambknhjlaaGreatDoorW.PrintWords Go.Proofs.YtglaeambknhjlaaGreatDoor.P Go.Proofs.YtglaeambknhjlaaGreatDoorW.PrintLast Go.Proofs.YtglaeambknhjlaaGreatDoorW.PrintMore
def FOf (s r1 r2 z m:Bool) (t b g:ByteArray) (res:Value):Prop:=res=if r1=true∧r2=true∧z=false∧(s=true→m=false)∧g.toList=([49]:List UInt8) then .tuple #[.agg #[.bool s,.string t,.string b],.bool true] else .tuple #[.agg #[.bool false,.string (T 0),.string (T 1)],.bool false]
theorem FOf.r1 {s r2 z m:Bool} {t b g:ByteArray} {res:Value} (h:FOf s false r2 z m t b g res):res = .tuple #[.agg #[.bool false,.string (T 0),.string (T 1)],.bool false]:=h.trans (if_neg (fun h=>absurd h.1 (by decide)))
theorem FOf.r2 {s r1 z m:Bool} {t b g:ByteArray} {res:Value} (h:FOf s r1 false z m t b g res):res = .tuple #[.agg #[.bool false,.string (T 0),.string (T 1)],.bool false]:=h.trans (if_neg (fun h=>absurd h.2.1 (by decide)))
theorem FOf.z {s r1 r2 m:Bool} {t b g:ByteArray} {res:Value} (h:FOf s r1 r2 true m t b g res):res = .tuple #[.agg #[.bool false,.string (T 0),.string (T 1)],.bool false]:=h.trans (if_neg (fun h=>absurd h.2.2.1 (by decide)))
theorem FOf.m {r1 r2 z:Bool} {t b g:ByteArray} {res:Value} (h:FOf true r1 r2 z true t b g res):res = .tuple #[.agg #[.bool false,.string (T 0),.string (T 1)],.bool false]:=h.trans (if_neg (fun h=>absurd (h.2.2.2.1 rfl) (by decide)))
theorem FOf.g {s r1 r2 z m:Bool} {t b g:ByteArray} {res:Value} (hg:g.toList≠([49]:List UInt8)) (h:FOf s r1 r2 z m t b g res):res = .tuple #[.agg #[.bool false,.string (T 0),.string (T 1)],.bool false]:=h.trans (if_neg (fun h=>hg h.2.2.2.2))
end Go.Proofs.YtglaeambknhjlaaGreatDoor.Q
end
section
namespace Go.Proofs.YtglaeambknhjlaaGreatDoor.Q
open Go.RowKit Go.Proofs.YtglaeambknhjlaaGreatDoorW.PrintWords Go.Proofs.YtglaeambknhjlaaGreatDoor.P Go.Proofs.YtglaeambknhjlaaGreatDoorW.PrintLast Go.Proofs.YtglaeambknhjlaaGreatDoorW.PrintMore
attribute [local go_sem] max2_int min2_int max_two min_two
theorem repeat_calls (c:Nat) (w:World) (hc:c≤100000):Calls Tryz.prog 99 #[.string ⟨#[48]⟩,.int .i64 c] w fun e w'=>e = .returned (.string (zer c))∧Below w.heap.size w w':=by
 rcases (show c=0∨c=1∨2≤c by omega) with rfl|rfl|h2
 ·refine (Tryz.strings_Repeat_zero ⟨#[48]⟩ w).mono ?_
  rintro e w' ⟨he,rfl⟩
  exact ⟨he,Below.refl _ _⟩
 ·refine (Tryz.strings_Repeat_one ⟨#[48]⟩ w).mono ?_
  rintro e w' ⟨he,rfl⟩
  exact ⟨he,Below.refl _ _⟩
 ·refine (Tryz.strings_Repeat_main ⟨#[48]⟩ c w h2 (by omega) (by show 1*c≤_; omega) (by decide)).mono ?_
  rintro e w' ⟨he,hb⟩
  refine ⟨he.trans ?_,hb⟩
  have hrl:∀ c,Lib.repeatL [(48:UInt8)] c=List.replicate c 48:=fun c=>by
   induction c with
   | zero=>rfl
   | succ n ih=>simp [Lib.repeatL,ih,List.replicate_succ]
  unfold zer
  rw [show (⟨#[48]⟩:ByteArray).data.toList = [48] from rfl,hrl]
def plcR (d:ByteArray) (e:Int) (it:ByteArray):ByteArray:=
 if e < -5∨max (d.size:Int) 6≤e then ((if 1<d.size then d.extract 0 1++((⟨#[46]⟩:ByteArray)++d.extract 1 d.size) else d.extract 0 1)++(⟨#[101]⟩:ByteArray))++it
 else if e<0 then ((⟨#[48,46]⟩:ByteArray)++zer (-e-1).toNat)++d
 else if (d.size:Int)-1≤e then d++zer (e-d.size+1).toNat
 else (d.extract 0 (e+1).toNat++(⟨#[46]⟩:ByteArray))++d.extract (e+1).toNat d.size
theorem placed_exp (d it:ByteArray) (e:Int) (w:World) (hd:1≤d.size∧d.size≤5000) (hit:it.size≤1000) (he:e < -5∨max (d.size:Int) 6≤e) (hl : -100000≤e∧e≤100000) (HI:Calls Tryz.prog 170 #[.int .i64 e] w fun r w'=>r = .returned (.string it)∧Below w.heap.size w w') :
  Calls Tryz.prog 92 #[.string d,.int .i64 e] w fun r w'=>r = .returned (.string (plcR d e it))∧Below w.heap.size w w':=by
 have HV:=Lib.hid (show plcR d e it=_ from if_pos he)
 have HI:=Lib.hid HI
 have hle1:(1:Int)≤(d.size:Int):=by omega
 have hx0:(d.extract 0 1).size=1:=by rw [ByteArray.size_extract]; omega
 have hx1:(d.extract 1 d.size).size=d.size-1:=by rw [ByteArray.size_extract]; omega
 have hs1:(⟨#[46]⟩:ByteArray).size+(d.extract 1 d.size).size≤9223372036854775807:=by rw [hx1]; show 1+_≤_; omega
 have hs2:(d.extract 0 1).size+((⟨#[46]⟩:ByteArray)++d.extract 1 d.size).size≤9223372036854775807:=by rw [ByteArray.size_append,hx0,hx1]; show 1+(1+_)≤_; omega
 rcases (show (e < -5∨(¬ e < -5∧(d.size:Int)<6)∨(¬ e < -5∧¬ (d.size:Int)<6)) by omega) with h5|⟨h5,h6⟩|⟨h5,h6⟩<;>rcases (show (d.size:Int)>1∨¬ (d.size:Int)>1 by omega) with h1|h1
 all_goals
  try (have h7:e≥6:=by omega)
  try (have h8:e≥(d.size:Int):=by omega)
  go_enter Tryz.func92,Tryz.ntmps92
  go_wp2_with fail
  refine HI.out.mono ?_
  rintro r w1 ⟨rfl,hb⟩
  have HB:=Lib.hid hb
  clear hb
  go_wp2
  go_ret
  exact ⟨by rw [HV.out]; first|(rw [if_pos (by omega)]; rfl)|(rw [if_neg (by omega)]; rfl),HB.out⟩
theorem placed_low (d it:ByteArray) (e:Int) (w:World) (hd:1≤d.size∧d.size≤5000) (he : -5≤e∧e<0) :
  Calls Tryz.prog 92 #[.string d,.int .i64 e] w fun r w'=>r = .returned (.string (plcR d e it))∧Below w.heap.size w w':=by
 have hne:¬ (e < -5∨max (d.size:Int) 6≤e):=by omega
 have HV:=Lib.hid (show plcR d e it=_ from (if_neg hne).trans (if_pos he.2))
 obtain ⟨c,hc⟩:∃ c:Nat,-e-1=(c:Int):=⟨(-e-1).toNat,by omega⟩
 have HR:=Lib.hid (fun W=>repeat_calls c W (by omega))
 have hcz:(-e-1).toNat=c:=by omega
 rw [hcz] at HV
 have hzs:=zer_size c
 have hw1:wrap64 (-e) = -e:=by unfold wrap64; omega
 have hw2:wrap64 (-e-1) = -e-1:=by unfold wrap64; omega
 have hs1:(⟨#[48,46]⟩:ByteArray).size+(zer c).size≤9223372036854775807:=by rw [hzs]; show 2+_≤_; omega
 have hs2:2+(zer c).size≤9223372036854775807:=by rw [hzs]; omega
 have hs3:2+(zer c).size+d.size≤9223372036854775807:=by rw [hzs]; omega
 have hs4:((⟨#[48,46]⟩:ByteArray)++zer c).size+d.size≤9223372036854775807:=by rw [ByteArray.size_append,hzs]; show 2+_+_≤_; omega
 have HC:=Lib.hid hc
 have h5:¬ e < -5:=by omega
 have h6:¬ e≥6:=by omega
 have h7:¬ e≥(d.size:Int):=by omega
 have h8:e<0:=he.2
 clear hne hc hcz hzs
 rcases (show (d.size:Int)<6∨¬ (d.size:Int)<6 by omega) with h9|h9
 all_goals
  go_enter Tryz.func92,Tryz.ntmps92
  go_wp2_with fail
  rw [HC.out]
  refine (HR.out _).mono ?_
  rintro r w1 ⟨rfl,hb⟩
  have HB:=Lib.hid hb
  clear hb
  go_wp2
  go_ret
  exact ⟨by rw [HV.out]; rfl,HB.out⟩
theorem placed_long (d it:ByteArray) (e:Int) (w:World) (hd:1≤d.size∧d.size≤5000) (he:0≤e∧e<max (d.size:Int) 6) (hl:(d.size:Int)-1≤e) :
  Calls Tryz.prog 92 #[.string d,.int .i64 e] w fun r w'=>r = .returned (.string (plcR d e it))∧Below w.heap.size w w':=by
 have hne:¬ (e < -5∨max (d.size:Int) 6≤e):=by omega
 have HV:=Lib.hid (show plcR d e it=_ from (if_neg hne).trans ((if_neg (by omega)).trans (if_pos hl)))
 obtain ⟨c,hc⟩:∃ c:Nat,e-d.size+1=(c:Int):=⟨(e-d.size+1).toNat,by omega⟩
 have HR:=Lib.hid (fun W=>repeat_calls c W (by omega))
 have hcz:(e-d.size+1).toNat=c:=by omega
 rw [hcz] at HV
 have hzs:=zer_size c
 have hw0:wrap64 ((d.size:Int)-1)=(d.size:Int)-1:=by unfold wrap64; omega
 have hw1:wrap64 (e-d.size)=e-d.size:=by unfold wrap64; omega
 have hw2:wrap64 (e-d.size+1)=e-d.size+1:=by unfold wrap64; omega
 have hs3:d.size+(zer c).size≤9223372036854775807:=by rw [hzs]; omega
 have h5:¬ e < -5:=by omega
 have h8:¬ e<0:=by omega
 have hlt:e<6∨e<(d.size:Int):=by omega
 have hl':e≥(d.size:Int)-1:=hl
 have HC:=Lib.hid hc
 clear hne hc hcz hzs
 rcases (show ((d.size:Int)<6∧¬ e≥6)∨(¬ (d.size:Int)<6∧¬ e≥(d.size:Int)) by omega) with ⟨h9,h10⟩|⟨h9,h10⟩
 all_goals
  go_enter Tryz.func92,Tryz.ntmps92
  go_wp2_with fail
  rw [HC.out]
  refine (HR.out _).mono ?_
  rintro r w1 ⟨rfl,hb⟩
  have HB:=Lib.hid hb
  clear hb
  go_wp2
  go_ret
  exact ⟨by rw [HV.out]; rfl,HB.out⟩
theorem placed_mid (d it:ByteArray) (e:Int) (w:World) (hd:1≤d.size∧d.size≤5000) (he:0≤e∧e<max (d.size:Int) 6) (hl:¬ (d.size:Int)-1≤e) :
  Calls Tryz.prog 92 #[.string d,.int .i64 e] w fun r w'=>r = .returned (.string (plcR d e it))∧Below w.heap.size w w':=by
 have hne:¬ (e < -5∨max (d.size:Int) 6≤e):=by omega
 have HV:=Lib.hid (show plcR d e it=_ from (if_neg hne).trans ((if_neg (by omega)).trans (if_neg hl)))
 obtain ⟨K,hK⟩:∃ K:Nat,e+1=(K:Int):=⟨(e+1).toNat,by omega⟩
 have hkt:(e+1).toNat=K:=by omega
 rw [hkt] at HV
 have hw0:wrap64 ((d.size:Int)-1)=(d.size:Int)-1:=by unfold wrap64; omega
 have hw1:wrap64 (e+1)=(K:Int):=by rw [hK]; unfold wrap64; omega
 have hw2:IntKind.i64.wrap (e+1)=(K:Int):=by rw [hK]; exact IntWalk.i64_in _ (by omega)
 have hk0:(0:Int)≤(K:Int):=by omega
 have hk1:(K:Int)≤(d.size:Int):=by omega
 have hx0:(d.extract 0 K).size=K:=by rw [ByteArray.size_extract]; omega
 have hx1:(d.extract K d.size).size=d.size-K:=by rw [ByteArray.size_extract]; omega
 have hs1:(d.extract 0 K).size+1≤9223372036854775807:=by rw [hx0]; omega
 have hs2:((d.extract 0 K)++(⟨#[46]⟩:ByteArray)).size+(d.extract K d.size).size≤9223372036854775807:=by rw [ByteArray.size_append,hx0,hx1]; show K+1+_≤_; omega
 have hs3:(d.extract 0 K).size+1+(d.extract K d.size).size≤9223372036854775807:=by rw [hx0,hx1]; omega
 have hs4:min K d.size+1≤9223372036854775807:=by omega
 have hs5:min K d.size+1+(d.size-K)≤9223372036854775807:=by omega
 have h5:¬ e < -5:=by omega
 have h8:¬ e<0:=by omega
 have hl':¬ e≥(d.size:Int)-1:=hl
 have h11:e<6∨e<(d.size:Int):=by omega
 clear hne hx0 hx1 hkt hl he hd hK
 rcases (show ((d.size:Int)<6∧¬ e≥6)∨(¬ (d.size:Int)<6∧¬ e≥(d.size:Int)) by omega) with ⟨h9,h10⟩|⟨h9,h10⟩
 all_goals
  go_enter Tryz.func92,Tryz.ntmps92
  go_wp2_with fail
  first|(go_region_held (fun _=>True) (exact trivial) ((first|fail)))|fail
  all_goals
   go_wp2
   go_ret
   exact ⟨by rw [HV.out]; rfl,below_drew (Below.refl _ _)⟩
end Go.Proofs.YtglaeambknhjlaaGreatDoor.Q
end
section
namespace Go.Proofs.YtglaeambknhjlaaGreatDoor.Q
open Go.RowKit Go.Proofs.YtglaeambknhjlaaGreatDoorW.PrintWords Go.Proofs.YtglaeambknhjlaaGreatDoor.P Go.Proofs.YtglaeambknhjlaaGreatDoorW.PrintLast Go.Proofs.YtglaeambknhjlaaGreatDoorW.PrintMore
theorem placed_calls (d it:ByteArray) (e:Int) (w:World) (hd:1≤d.size∧d.size≤5000) (hit:it.size≤1000) (hl : -100000≤e∧e≤100000) (HI:Calls Tryz.prog 170 #[.int .i64 e] w fun r w'=>r = .returned (.string it)∧Below w.heap.size w w') :
  Calls Tryz.prog 92 #[.string d,.int .i64 e] w fun r w'=>r = .returned (.string (plcR d e it))∧Below w.heap.size w w':=by
 by_cases h1:e < -5∨max (d.size:Int) 6≤e
 ·exact placed_exp d it e w hd hit h1 hl HI
 ·by_cases h2:e<0
  ·exact placed_low d it e w hd (by omega)
  ·by_cases h3:(d.size:Int)-1≤e
   ·exact placed_long d it e w hd (by omega) h3
   ·exact placed_mid d it e w hd (by omega) h3
theorem below_ans {a b:ByteArray} {x:Rat} (h:RR a b x):Ans 88 #[.agg #[.string a,.string b]] (.bool (decide (x.num<0))):=by
 intro w
 have hp:0<a.size:=by
  rw [h.num,←data_length]
  by_cases hn:x.num<0
  ·rw [wtext_neg hn,ByteArray.data_append,Array.toList_append]; simp
  ·rw [wtext_pos (by omega)]; exact (T_can _).1
 have hb:(((a[0]'hp).toNat:Int) == 45)=decide (x.num<0):=by
  have e1:a[0]'hp=a.data.toList[0]'(by rw [data_length]; exact hp):=rfl
  have hl:a.data.toList=(wtext x.num).data.toList:=by rw [h.num]
  by_cases hn:x.num<0
  ·have h2:a.data.toList=45 :: (T x.num.natAbs).data.toList:=by rw [hl,wtext_neg hn,ByteArray.data_append,Array.toList_append]; rfl
   have e2:a[0]'hp=45:=by rw [e1]; simp [h2]
   rw [e2,decide_eq_true hn]; rfl
  ·have h2:a.data.toList=(T x.num.natAbs).data.toList:=by rw [hl,wtext_pos (by omega)]
   have h3:a[0]'hp∈(T x.num.natAbs).data.toList:=by rw [←h2,e1]; exact List.getElem_mem _
   have h4:=(T_can x.num.natAbs).2.1 _ h3
   rw [decide_eq_false hn,beq_eq_false_iff_ne]
   omega
 have hlt:(0:Int)<(a.size:Int):=by omega
 have HB:=Lib.hid hb
 clear hb
 go_enter Tryz.func88,Tryz.ntmps88
 have hba:=below_alloc (Below.refl w.heap.size w) (.cells #[.string a,.string b] 23)
 have HBA:=Lib.hid hba
 clear hba
 go_wp2
 go_ret
 exact ⟨by rw [←HB.out]; rfl,HBA.out⟩
theorem abs_parts (x:Rat):x.abs.num=(x.num.natAbs:Int)∧x.abs.den=x.den:=by
 unfold Rat.abs
 split
 ·rename_i h
  have:=Rat.num_nonneg.2 h
  exact ⟨by omega,rfl⟩
 ·rename_i h
  have h2:x.num<0:=by
   rcases Int.lt_or_le x.num 0 with h3|h3
   ·exact h3
   ·exact absurd (Rat.num_nonneg.1 h3) h
  exact ⟨by rw [Rat.neg_num]; omega,rfl⟩
theorem rnd_size {x:Rat} {n:Int} (hs:Sz 600 x) (hb:Bdr 2000 x) (hn:1≤n∧n≤40):1≤(rndR x n).1.size∧(rndR x n).1.size≤5000:=by
 have hel:=expR_le hs
 have hm:=bd_even ((hb.mul (Bdr.tenR (n-1-expR x))).mono (show 2000+(4*(n-1-expR x).natAbs+1)≤4801 by omega))
 have hsz:(wtext (evenR (x*tenR (n-1-expR x)))).size≤4803∧1≤(wtext (evenR (x*tenR (n-1-expR x)))).size:=by
  generalize evenR (x*tenR (n-1-expR x))=m at *
  have h1:(T m.natAbs).size≤4802:=(T_size_le (k:=4802) (by decide)).2 (Nat.lt_of_lt_of_le hm (Nat.pow_le_pow_left (show 2≤10 by decide) 4802))
  have h2:=T_size_pos m.natAbs
  by_cases hx:m<0
  ·rw [wtext_neg hx,ByteArray.size_append]
   have:(⟨#[45]⟩:ByteArray).size=1:=rfl
   omega
  ·rw [wtext_pos (by omega)]; omega
 unfold rndR
 dsimp only
 generalize wtext (evenR (x*tenR (n-1-expR x)))=s at *
 split
 ·rename_i h
  show 1≤(s.extract 0 n.toNat).size∧(s.extract 0 n.toNat).size≤5000
  rw [ByteArray.size_extract]
  omega
 ·show 1≤s.size∧s.size≤5000
  omega
theorem plc_size {d it:ByteArray} {e:Int} (hd:1≤d.size∧d.size≤5000) (hit:it.size≤1000) (hl : -100000≤e∧e≤100000):(plcR d e it).size≤1000000:=by
 have h1:(⟨#[46]⟩:ByteArray).size=1:=rfl
 have h2:(⟨#[101]⟩:ByteArray).size=1:=rfl
 have h3:(⟨#[48,46]⟩:ByteArray).size=2:=rfl
 unfold plcR
 split
 ·split<;>(simp only [ByteArray.size_append,ByteArray.size_extract,h1,h2]; omega)
 ·split
  ·simp only [ByteArray.size_append,zer_size,h3]; omega
  ·split
   ·simp only [ByteArray.size_append,zer_size]; omega
   ·simp only [ByteArray.size_append,ByteArray.size_extract,h1]; omega
theorem number_ok (a b it:ByteArray) (x:Rat) (n:Int) (w:World) (h0:1≤n) (h1:n≤40) (hx:RR a b x) (hz:x≠0) (hit:it.size≤1000) (HI:∀ W,Below w.heap.size w W→Calls Tryz.prog 170 #[.int .i64 (rndR x.abs n).2] W fun r w'=>r = .returned (.string it)∧Below W.heap.size W w') :
  Calls Tryz.prog 19 #[.agg #[.string a,.string b],.int .i64 n] w fun r w'=>r = .returned (.tuple #[.string ((if x.num<0 then (⟨#[45]⟩:ByteArray) else ⟨#[]⟩)++plcR (rndR x.abs n).1 (rndR x.abs n).2 it),.int .i64 0])∧Below w.heap.size w w':=by
 have HA:=rat_right_ans hx
 have HBl:=Lib.hid (below_ans hx)
 have HRd:=Lib.hid (fun W=>fread_yes hx W)
 obtain ⟨e1,e2⟩:=abs_parts x
 have hn0:=num_ne hz
 have hsz:Sz 600 x.abs:=by unfold Sz; rw [e1,e2,Int.natAbs_natCast]; exact rr_sz hx
 have hbd:Bdr 2000 x.abs:=⟨by rw [e1]; exact hx.bd.1.abs,by rw [e2]; exact hx.bd.2⟩
 have hpos:0<x.abs.num:=by rw [e1]; omega
 have HBX:=Lib.hid hx.bd
 have hel:=expR_le hsz
 have hrs:=rnd_size (n:=n) hsz hbd ⟨h0,h1⟩
 have hr2 : -100000≤(rndR x.abs n).2∧(rndR x.abs n).2≤100000:=by
  unfold rndR; dsimp only; split<;>(dsimp only; omega)
 have HRo:=Lib.hid (fun W g (h:RatAt W g x.abs)=>rounded_calls g x.abs n W h hpos hsz hbd ⟨h0,h1⟩)
 have HI:=Lib.hid HI
 have HPl:=Lib.hid (fun W (h:Below w.heap.size w W)=>placed_calls (rndR x.abs n).1 it (rndR x.abs n).2 W hrs hit hr2 (HI.out W h))
 have hzb:(a.toList == ([48]:List UInt8))=false:=by
  rw [beq_eq_false_iff_ne]; exact fun e=>hz ((rr_zero hx).1 e)
 have k1:¬ n<1:=by omega
 have k2:¬ n>40:=by omega
 have HPS:=Lib.hid (plc_size (d:=(rndR x.abs n).1) (e:=(rndR x.abs n).2) hrs hit hr2)
 clear h0 h1 hx hz hit e1 e2 hn0 hsz hbd hpos hel hrs hr2
 generalize (rndR x.abs n).1=d at *
 generalize (rndR x.abs n).2=e at *
 generalize plcR d e it=pl at *
 have hbool:decide (x.num<0)=true∨decide (x.num<0)=false:=by cases decide (x.num<0)<;>simp
 revert HA
 intro HA
 have HA:=Lib.hid HA
 go_enter Tryz.func19,Tryz.ntmps19
 have fa:=RbAt.new w a b
 have hba:=below_alloc (Below.refl w.heap.size w) (.cells #[.string a,.string b] 23)
 go_wp2_with fail
 generalize w.alloc (.cells #[.string a,.string b] 23)=W0 at *
 have HFA:=Lib.hid fa
 have HBA:=Lib.hid hba
 clear fa hba
 refine (HA.out _).mono ?_
 rintro e w1 ⟨rfl,hb⟩
 replace HFA:=Lib.hid (HFA.out.below hb)
 replace HBA:=Lib.hid (bthen HBA.out hb)
 clear hb
 have c0:=HFA.out.c0
 have c1:=HFA.out.c1
 go_wp2_with fail
 refine (HBl.out _).mono ?_
 rintro e3 w2 ⟨rfl,hb⟩
 have f2:=HFA.out.below hb
 clear c0 c1
 have c0:=f2.c0
 have c1:=f2.c1
 replace HBA:=Lib.hid (bthen HBA.out hb)
 clear hb
 have hp1:=HPS.out
 have hp2:1+pl.size≤9223372036854775807:=by omega
 have hp3:(⟨#[45]⟩:ByteArray).size+pl.size≤9223372036854775807:=hp2
 have hp4:0+pl.size≤9223372036854775807:=by omega
 have hp5:(⟨#[]⟩:ByteArray).size+pl.size≤9223372036854775807:=hp4
 have hp6:pl.size≤9223372036854775807:=by omega
 by_cases hn:x.num<0
 all_goals
  first
  | (have hdec:decide (x.num<0)=true:=decide_eq_true hn; rw [hdec])
  | (have hdec:decide (x.num<0)=false:=decide_eq_false hn; rw [hdec])
  go_wp2_with fail
  refine (HRd.out _).mono ?_
  rintro e4 w3 ⟨g,rfl,hg,hr3,hb3⟩
  have hge:w.heap.size≤g:=by have:=HBA.out.size; omega
  go_wp2_with fail
  refine (rabs_calls g g x _ hr3.slot hr3 HBX.out (by decide)).mono ?_
  rintro e5 w4 ⟨rfl,hr4,hu4⟩
  have hB4:=hu4.new (bthen HBA.out hb3) hge
  clear hr3 hu4 hb3 hg hge c0 c1
  go_wp2_with fail
  refine (HRo.out _ g hr4).mono ?_
  rintro e6 w5 ⟨rfl,hb5⟩
  have hB5:=bthen hB4 hb5
  clear hr4 hB4 hb5
  go_wp2_with fail
  refine (HPl.out _ hB5).mono ?_
  rintro e7 w6 ⟨rfl,hb6⟩
  have HB6:=Lib.hid (bthen hB5 hb6)
  have HNN:=Lib.hid hn
  clear hB5 hb6 hn
  go_wp2
  all_goals go_ret2
  all_goals refine ⟨?_,HB6.out⟩
  all_goals first
  | (exfalso; have h9:=HNN.out; omega)
  | rfl
  | (rw [show (⟨#[]⟩:ByteArray)++pl=pl from by apply ByteArray.ext; simp]; rfl)
  | (rw [if_pos (show x.num<0 by have:=HNN.out; omega)]; rfl)
  | (rw [if_neg (show ¬ x.num<0 by have:=HNN.out; omega)]; rfl)
  | (rw [if_neg (show ¬ x.num<0 by have:=HNN.out; omega),show (⟨#[]⟩:ByteArray)++pl=pl from by apply ByteArray.ext; simp]; rfl)
end Go.Proofs.YtglaeambknhjlaaGreatDoor.Q
end
section
namespace Go.Proofs.YtglaeambknhjlaaGreatDoor.Q
open Go.RowKit Go.Proofs.YtglaeambknhjlaaGreatDoorW.PrintWords Go.Proofs.YtglaeambknhjlaaGreatDoorW.PrintLast Go.Proofs.YtglaeambknhjlaaGreatDoorW.PrintMore
attribute [local go_sem] max2_int min2_int max_two min_two max_three min_three max_four min_four
noncomputable def cubitref25_even.f (a0_0:Bool) (a0_1:ByteArray) (a0_2:ByteArray):Option (ByteArray):=(cubitref01_Divide.f a0_1 a0_2).bind fun bt348=>((cubitref01_Plus.f bt348.2 bt348.2).bind fun t350=>((cubitref01_Compare.f t350 a0_2).bind fun t351=>(if t351>0 then ((cubitref01_Plus.f bt348.1 (⟨#[49]⟩:ByteArray)).bind fun t352=>(some t352)) else (if t351=0 then (if 0≤(wrap64 ((bt348.1.size:Int)-1)) then (if (wrap64 ((bt348.1.size:Int)-1))<(bt348.1.size:Int) then (if ((((bt bt348.1 (wrap64 ((bt348.1.size:Int)-1)))-48)%256)%2)=1 then ((cubitref01_Plus.f bt348.1 (⟨#[49]⟩:ByteArray)).bind fun t353=>(some t353)) else (some bt348.1)) else (none)) else (none)) else (some bt348.1)))))
noncomputable def cubitref25_noughts.l0:Nat→Int→ByteArray→Int→Option (ByteArray)
 | 0,_,_,_=>none
 | k+1,x0,x3,x4=>if x4<x0 then (if x3.size+1≤9223372036854775807 then (cubitref25_noughts.l0 k x0 (x3++(⟨#[48]⟩:ByteArray)) (wrap64 (x4+1))) else (none)) else (some x3)
noncomputable def cubitref25_noughts.f (k:Nat) (a0:Int):Option (ByteArray):=cubitref25_noughts.l0 k a0 (⟨#[]⟩:ByteArray) 0
end Go.Proofs.YtglaeambknhjlaaGreatDoor.Q
end
section
namespace Go.Proofs.YtglaeambknhjlaaGreatDoor.Q
open Go.RowKit Go.Proofs.YtglaeambknhjlaaGreatDoorW.PrintWords Go.Proofs.YtglaeambknhjlaaGreatDoor.P Go.Proofs.YtglaeambknhjlaaGreatDoorW.PrintLast Go.Proofs.YtglaeambknhjlaaGreatDoorW.PrintMore
def Itoas (w:World):Prop:=∀ (e:Int),-100000≤e→e≤100000→∃ it:ByteArray,it.size≤1000∧∀ W,Below w.heap.size w W→Calls Tryz.prog 170 #[.int .i64 e] W fun r w'=>r = .returned (.string it)∧Below W.heap.size W w'
theorem Itoas.below {w w':World} (h:Itoas w) (hb:Below w.heap.size w w'):Itoas w':=fun e h0 h1=>by
 obtain ⟨it,h2,h3⟩:=h e h0 h1
 exact ⟨it,h2,fun W hW=>h3 W (bthen hb hW)⟩
theorem third_rr:RR ⟨#[49]⟩ ⟨#[51]⟩ (Rat.divInt 1 3):=by
 have h1:(Rat.divInt 1 3).num=1:=by decide
 have h2:(Rat.divInt 1 3).den=3:=by decide
 have k1:(1:Nat)<10^600:=Nat.lt_of_lt_of_le (show 1<10^1 by decide) (Nat.pow_le_pow_right (by decide) (by decide))
 have k3:(3:Nat)<10^600:=Nat.lt_of_lt_of_le (show 3<10^1 by decide) (Nat.pow_le_pow_right (by decide) (by decide))
 refine ⟨?_,?_,?_,?_⟩
 ·rw [h1,wtext_pos (by decide)]; decide +kernel
 ·rw [h2]; decide +kernel
 ·rw [h1]; exact k1
 ·rw [h2]; exact k3
theorem third_abs:(Rat.divInt 1 3).abs=Rat.divInt 1 3:=by decide +kernel
theorem third_rnd:rndR (Rat.divInt 1 3) 3=(⟨#[51,51,51]⟩,-1):=by decide +kernel
theorem third_plc (it:ByteArray):plcR ⟨#[51,51,51]⟩ (-1) it=⟨#[48,46,51,51,51]⟩:=by
 unfold plcR
 rw [if_neg (by decide),if_pos (by decide)]
 decide +kernel
theorem known_third (w:World) (H:Itoas w):Calls Tryz.prog 19 #[.agg #[.string ⟨#[49]⟩,.string ⟨#[51]⟩],.int .i64 3] w fun r w'=>r = .returned (.tuple #[.string ⟨#[48,46,51,51,51]⟩,.int .i64 0])∧Below w.heap.size w w':=by
 obtain ⟨it,hit,HI⟩:=H (-1) (by decide) (by decide)
 have hne:Rat.divInt 1 3≠0:=by decide
 have h:=number_ok ⟨#[49]⟩ ⟨#[51]⟩ it (Rat.divInt 1 3) 3 w (by decide) (by decide) third_rr hne hit (by rw [third_abs,third_rnd]; exact HI)
 rw [third_abs,third_rnd,third_plc,if_neg (by decide)] at h
 have e:(⟨#[]⟩:ByteArray)++(⟨#[48,46,51,51,51]⟩:ByteArray)=⟨#[48,46,51,51,51]⟩:=by decide
 rw [e] at h
 exact h
theorem known25 (w:World) (H:Itoas w):Calls Tryz.prog 23 #[] w fun r w'=>r = .returned (.bool true)∧Below w.heap.size w w':=by
 have H3:=Lib.hid (fun W (h:Below w.heap.size w W)=>known_third W (H.below h))
 clear H
 go_enter Tryz.func23,Tryz.ntmps23
 have hba:=below_alloc (Below.refl w.heap.size w) (.cells #[.string ⟨#[49]⟩,.string ⟨#[51]⟩] 23)
 have fa:=RbAt.new w ⟨#[49]⟩ ⟨#[51]⟩
 have c0:=fa.c0
 have c1:=fa.c1
 go_wp2_with fail
 refine (H3.out _ (by first|exact hba|exact Below.refl _ _)).mono ?_
 rintro r w1 ⟨rfl,hb⟩
 have HB:=Lib.hid (show Below w.heap.size w w1 from by first|exact bthen hba hb|exact hb)
 clear hb hba fa c0 c1
 go_wp2
 go_ret
 exact ⟨rfl,HB.out⟩
end Go.Proofs.YtglaeambknhjlaaGreatDoor.Q
end
section
namespace Go.Proofs.YtglaeambknhjlaaGreatDoor.Q
open Go.RowKit Go.Proofs.YtglaeambknhjlaaGreatDoorW.PrintWords Go.Proofs.YtglaeambknhjlaaGreatDoorW.PrintLast Go.Proofs.YtglaeambknhjlaaGreatDoorW.PrintMore Go.Proofs.YtglaeambknhjlaaGreatDoor.P
def rowS:Kd (Nat×Nat×Nat):=Kd.scalar (fun p=>Value.slice (some ⟨p.1,0,none⟩) p.2.1 p.2.2) (fun _=>rfl)
theorem infoSl:(Tryz.prog.info? 34).map (fun i=>(i.zero,i.size,i.bytes))=some (some (.slice none 0 0),1,24):=by kernel_rfl
def Lent (wr:World) (base:Nat) (p:Nat×Nat×Nat) (l:List ByteArray):Prop:=p.2.1=l.length∧(l ++ [mark]).length≤p.2.2∧Kd.string.R 9 wr base (fun _=>True) (.slice (some ⟨p.1,0,none⟩) (l ++ [mark]).length p.2.2) (l ++ [mark])
theorem texts_of {w:World} {g:Nat} {l:List ByteArray} (hl:l.length≤1048576) (h:∀ (j:Nat) (x:ByteArray),l[j]? = some x→w.cell? ⟨g,j,none⟩=some (.string x)):Kd.string.C w (some ⟨g,0,none⟩) l.length l:=by
 refine ⟨rfl,?_,fun _=>⟨⟨g,0,none⟩,rfl,fun j x hj=>⟨[.string x],rfl,rfl,fun i u hu => ?_⟩⟩⟩
 ·omega
 ·obtain ⟨hi,e2⟩:=List.getElem?_eq_some_iff.1 hu
  obtain rfl:i=0:=by simp at hi; omega
  have e3:Value.string x=u:=e2
  subst e3
  have h2:=h j x hj
  rw [show j*Kd.string.sz+0=j from Nat.mul_one j]
  rw [←h2]
  by_cases hj0:j=0
  ·subst hj0; simp [Addr.add]
  ·simp [Addr.add,hj0]
theorem Lent.cells {wr:World} {base:Nat} {p:Nat×Nat×Nat} {l:List ByteArray} (h:Lent wr base p l):(∀ (j:Nat) (x:ByteArray),l[j]? = some x→wr.cell? ⟨p.1,j,none⟩=some (.string x))∧wr.cell? ⟨p.1,l.length,none⟩=some (.string mark):=by
 have hc:∀ (j:Nat) (x:ByteArray),(l ++ [mark])[j]? = some x→wr.cell? ⟨p.1,j,none⟩=some (.string x):=fun j x hj=>by
  obtain ⟨hl,e⟩:=List.getElem?_eq_some_iff.1 hj
  have h1:=(Kd.R_cell (enc:=Value.string) (h1:=fun _=>rfl) ByteArray.empty h.2.2 (j:Int) (by omega) (by omega)).1
  rw [Int.toNat_natCast] at h1
  rw [h1]
  show some (Value.string ((l ++ [mark]).getD (j:Int).toNat ByteArray.empty))=_
  rw [Int.toNat_natCast,List.getD_eq_getElem?_getD,hj]; rfl
 refine ⟨fun j x hj=>hc j x ?_,hc l.length mark ?_⟩
 ·obtain ⟨hl,e⟩:=List.getElem?_eq_some_iff.1 hj
  rw [List.getElem?_append_left hl]; exact hj
 ·rw [List.getElem?_append_right (Nat.le_refl _)]; simp
theorem Lent.below {wr w1:World} {base:Nat} {p:Nat×Nat×Nat} {l:List ByteArray} (h:Lent wr base p l) (hb:Below wr.heap.size wr w1):Lent w1 base p l:=⟨h.1,h.2.1,Kd.R_below h.2.2 hb⟩
structure Cop (R:List (List ByteArray)) (w wr:World) (v:Value) (i:Nat) (ps:List (Nat×Nat×Nat)):Prop where
 len:ps.length=i
 row:rowS.R 34 wr w.heap.size (fun _=>True) v ps
 lent:∀ (j:Nat) p,ps[j]? = some p→Lent wr w.heap.size p (gd R j)
 below:Below w.heap.size w wr
theorem Cop.move {R:List (List ByteArray)} {w wr w1:World} {v:Value} {i:Nat} {ps:List (Nat×Nat×Nat)} (h:Cop R w wr v i ps) (hb:Below wr.heap.size wr w1):Cop R w w1 v i ps:=
 ⟨h.len,Kd.R_below h.row hb,fun j p hj=>(h.lent j p hj).below hb,h.below.trans (hb.mono h.below.size)⟩
theorem Cop.app {R:List (List ByteArray)} {w W w1:World} {v v1:Value} {i:Nat} {ps:List (Nat×Nat×Nat)} {p:Nat×Nat×Nat} (h:Cop R w W v i ps) (hp:Lent W w.heap.size p (gd R i)) (ho:rowS.R 34 w1 w.heap.size (fun _=>True) v1 (ps ++ [p])) (hb:Below w.heap.size w w1) (hg:W.grownBy w1 v.ownBlock):Cop R w w1 v1 (i+1) (ps ++ [p]):=by
 have over:∀ {q:Nat×Nat×Nat} {l:List ByteArray},Lent W w.heap.size q l→Lent w1 w.heap.size q l:=fun hq=>⟨hq.1,hq.2.1,Kd.R_over hq.2.2 h.row (fun q hq=>by (rw [List.mem_singleton.1 hq]; decide)) hg⟩
 refine ⟨by rw [List.length_append,h.len]; rfl,ho,fun j q hj => ?_,hb⟩
 by_cases hlt:j<ps.length
 ·rw [List.getElem?_append_left hlt] at hj
  exact over (h.lent j q hj)
 ·rw [List.getElem?_append_right (by omega)] at hj
  have hz:j-ps.length=0:=by
   obtain ⟨hl,_⟩:=List.getElem?_eq_some_iff.1 hj
   simp at hl; omega
  rw [hz] at hj
  obtain rfl:p=q:=by simpa using hj
  have e:j=i:=by have:=h.len; omega
  rw [e]
  exact over hp
theorem Cop.grid {R:List (List ByteArray)} {w wr:World} {v:Value} {ps:List (Nat×Nat×Nat)} (h:Cop R w wr v R.length ps) (hl:∀ i,(gd R i).length≤1048576) (hR:R.length≤1048576):∃ A c,v = .slice A R.length c∧R.length≤c∧Grid wr A R:=by
 obtain ⟨A,c,e,hc,hC⟩:=Kd.R_reads h.row
 rw [h.len] at e hc hC
 refine ⟨A,c,e,hc,rfl,by omega,fun hn => ?_⟩
 obtain ⟨_,_,h3⟩:=hC
 obtain ⟨ad,he,hcell⟩:=h3 hn
 refine ⟨ad,he,fun j row hj => ?_⟩
 obtain ⟨hjl,e2⟩:=List.getElem?_eq_some_iff.1 hj
 have hjp:j<ps.length:=by have:=h.len; omega
 obtain ⟨cs,k1,k2,k3⟩:=hcell j _ (List.getElem?_eq_getElem hjp)
 have hle:=h.lent j _ (List.getElem?_eq_getElem hjp)
 have hg:gd R j=row:=by unfold gd; rw [List.getD_eq_getElem?_getD,hj]; rfl
 rw [hg] at hle
 refine ⟨cs,k1,?_,k3⟩
 have hr:row.length≤1048576:=by rw [←hg]; exact hl j
 refine ⟨some ⟨(ps[j]).1,0,none⟩,(ps[j]).2.2,?_,?_,texts_of hr hle.cells.1⟩
 ·have k2':cs = [Value.slice (some ⟨(ps[j]).1,0,none⟩) (ps[j]).2.1 (ps[j]).2.2]:=k2
  rw [k2',hle.1]
 ·have:=hle.2.1; rw [List.length_append] at this; simp at this; omega
theorem ShowTable_any (R:List (List ByteArray)) (A0:Option Addr) (c0:Nat) (w:World) (hR:Grid w A0 R) (hcR:R.length≤c0) (hbig:R.length≤1048576) (hrow:∀ i,(gd R i).length≤1048576) (hz:∀ i k,(ce R i k).size≤1048576) (H:Itoas w) :
  Calls Tryz.prog 4 #[.slice A0 R.length c0] w fun e w'=>e = .returned (.bool true)∧Below w.heap.size w w':=by
 obtain ⟨kf,hkf⟩:=(ref_table hz).rounds
 have HRF:=Lib.hid (fun W hW=>cubitref25_Table.calls kf A0 c0 R (tabF R).1 (tabF R).2 W hW hcR hkf)
 have HTB:=Lib.hid (fun W A c (hW:Grid W A R) (hc:R.length≤c)=>table_calls R A c W hW hc hbig hrow hz)
 have HK:=Lib.hid (fun W (h:Below w.heap.size w W)=>known25 W (H.below h))
 have HR:=Lib.hid hR
 have HRW:=Lib.hid hrow
 have H0:=Lib.hid (show Cop R w w (.slice none 0 0) 0 [] from ⟨rfl,Kd.R_nil _ _ _ _ _,fun j p h=>by simp at h,Below.refl _ _⟩)
 clear hR hcR hrow hz hkf H
 generalize (tabF R).1=tx at *
 generalize (tabF R).2=ee at *
 go_enter Tryz.func4,Tryz.ntmps4
 go_wp2
 go_loopw [4,3] (fun v4 v3 wr=>∃ i:Nat,i≤R.length∧v4 = .int .i64 i∧Hid (∃ ps,Cop R w wr v3 i ps)) (fun v4 _ _=>R.length-(intOf v4).toNat)
 case atStart=>exact ⟨0,Nat.zero_le _,by go_num,Lib.hid ⟨[],H0.out⟩⟩
 case round =>
  clear H0
  obtain ⟨i,hi,rfl,HP⟩:=hrel
  obtain ⟨ps,hp⟩:=HP.out
  by_cases hil:i<R.length
  ·obtain ⟨ad,B,cB,rfl,hcell,hcB,hCB⟩:=grid_in HR.out hp.below hil
   have hl:=HRW.out i
   have HCB:=Lib.hid (Kd.C_below hCB hp.below)
   have HCP:=Lib.hid hp
   have HcB:=Lib.hid hcB
   clear hCB hp HP hcB
   go_wp2_with fail
   refine (lent_calls B cB (gd R i) _ HCB.out HcB.out hl).mono ?_
   rintro e w1 ⟨g,cap,rfl,hcap,hrow1,hb1⟩
   have HC1:=Lib.hid (HCP.out.move hb1)
   have HL1:=Lib.hid (show Lent w1 w.heap.size (g,(gd R i).length,cap) (gd R i) from ⟨rfl,hcap,Kd.R_lower hrow1 HCP.out.below.size⟩)
   have hpl:ps.length≤1048576:=by have:=HCP.out.len; omega
   clear hcap hrow1 hb1 HCP hcell
   go_wp2_with (first
    | ((with_reducible refine gate_builtin (b:=.append) (xs:=#[.tmp 16,.tmp 22]) rfl ?_); at_builtin; refine Kd.R_append rowS (w0:=w) w.heap.size rfl (.tmp 16) (.tmp 22) 33 34 (.slice none 0 0) 24 rfl Tryz.underlying33 infoSl (by rfl) (by decide) (by omega) _ ps (g,(gd R i).length,cap) [.slice (some ⟨g,0,none⟩) (gd R i).length cap] (fun _=>True) (fun _=>False) rfl rfl ?aP (fun _ hk=>hk.elim) (fun _ _=>trivial) ?aO ?aB ?aS ?aL ?_; (case aP=>exact rfl); (case aO=>exact HC1.out.row); (case aB=>exact HC1.out.below); (case aS=>exact HC1.out.below.size); (case aL=>omega); intro v2 w2 ho hb hg hat; have HF:=Lib.hid (show ∃ ps,Cop R w w2 v2 (i+1) ps from ⟨_,HC1.out.app HL1.out ho hb hg⟩); clear ho hb hg hat))
   clear HC1 HL1
   go_roundw
   case rel=>exact ⟨i+1,by omega,by go_num,HF⟩
   case measure=>simp [intOf]; omega
  ·obtain rfl:i=R.length:=by omega
   obtain ⟨A,c,e3,hc,hG⟩:=hp.grid HRW.out hbig
   subst e3
   have HC:=Lib.hid hp
   clear hp HP hil hi
   go_wp2_with fail
   refine (HTB.out _ A c hG hc).mono ?_
   rintro e w1 ⟨rfl,hb1⟩
   have HC1:=Lib.hid (HC.out.move hb1)
   clear hb1 HC hG
   go_wp2_with fail
   refine (HRF.out _ (Kd.C_below HR.out HC1.out.below)).mono ?_
   rintro e w2 ⟨rfl,hb2⟩
   have HC2:=Lib.hid (HC1.out.move hb2)
   clear hb2 HC1
   go_wp2
   have HB2:=Lib.hid (Below.refl w2.heap.size w2)
   go_loopw [9] (fun v9 wx=>∃ i:Nat,i≤R.length∧v9 = .int .i64 i∧Hid (Below w2.heap.size w2 wx)) (fun v9 _=>R.length-(intOf v9).toNat)
   case atStart=>exact ⟨0,Nat.zero_le _,by go_num,HB2⟩
   case round =>
    clear HB2
    obtain ⟨i,hi,rfl,HB3⟩:=hrel
    by_cases hil:i<R.length
    ·have HC3:=Lib.hid (HC2.out.move HB3.out)
     obtain ⟨ad,B,cB,rfl,hcell,hcB,hCB⟩:=grid_in HR.out HC3.out.below hil
     have hip:i<ps.length:=by have:=HC3.out.len; omega
     obtain ⟨p,hpj⟩:∃ p,ps[i]? = some p:=⟨_,List.getElem?_eq_getElem hip⟩
     obtain ⟨gc,cap2,e4,_,_,_⟩:=Kd.R_form HC3.out.row (by omega)
     injection e4 with e4 e9 e5
     clear e9
     subst e4 e5
     have c1:=(Kd.R_cell (enc:=fun p:Nat×Nat×Nat=>Value.slice (some ⟨p.1,0,none⟩) p.2.1 p.2.2) (h1:=fun _=>rfl) p (show rowS.R 34 wr w.heap.size (fun _=>True) (.slice (some ⟨gc,0,none⟩) ps.length c) ps by have h9:=HC3.out.row; rw [←HC3.out.len] at h9; exact h9) (i:Int) (by omega) (by omega)).1
     have ep:rdOf p ps (i:Int)=p:=by
      show ps.getD (i:Int).toNat p=p
      rw [Int.toNat_natCast,List.getD_eq_getElem?_getD,hpj]; rfl
     rw [ep,Int.toNat_natCast] at c1
     have hL:=HC3.out.lent i p hpj
     obtain ⟨g,n,cap⟩:=p
     obtain rfl:n=(gd R i).length:=hL.1
     have HKC:=Lib.hid (fun W (h:Below wr.heap.size wr W)=>kept_calls g cap cB B (gd R i) W (texts_of (HRW.out i) (hL.below h).cells.1) (hL.below h).cells.2 (by have:=hL.2.1; rw [List.length_append] at this; exact this) (Kd.C_below hCB (HC3.out.below.trans (h.mono HC3.out.below.size))) hcB (HRW.out i))
     have HKE:=Lib.hid (show ∀ W:World,Below wr.heap.size wr W→W.cell? ⟨gc,i,none⟩=some (.slice (some ⟨g,0,none⟩) (gd R i).length cap)∧W.cell? (ad.add i)=some (.slice B (gd R i).length cB) from fun W h=>⟨(h.cell (World.block_lt_of_cell? _ _ c1)).trans c1,(h.cell (World.block_lt_of_cell? _ _ hcell)).trans hcell⟩)
     have hb1:(i:Int)<(R.length:Int):=by omega
     clear hL hCB hcB ep hpj c1 hcell HC3 hip
     go_wp2_with fail
     go_region_held3 (fun w':World=>w'.cell? ⟨gc,i,none⟩=some (.slice (some ⟨g,0,none⟩) (gd R i).length cap)∧w'.cell? (ad.add i)=some (.slice B (gd R i).length cB))
      ((with_reducible refine HKE.out _ ?_; repeat (with_reducible first|exact Below.refl _ _|apply below_drew|apply pw_below_drewN|refine bthen ?_ hbr1)))
      ((go_simp; go_at_call 28; refine (HKC.out _ (by repeat (with_reducible first|exact Below.refl _ _|apply below_drew|apply pw_below_drewN))).mono ?_; rintro e wr1 ⟨rfl,hbr1⟩))
     all_goals
      rename_i hHeld
      clear hHeld HKE HKC
      have hbw:Below wr.heap.size wr wr1:=by repeat (with_reducible first|exact Below.refl _ _|apply below_drew|apply pw_below_drewN|refine bthen ?_ hbr1)
      have HF:=Lib.hid (HB3.out.trans (hbw.mono HB3.out.size))
      clear hbw hbr1 HB3
      go_wp2_with fail
      go_roundw
      case rel=>exact ⟨i+1,by omega,by go_num,HF⟩
      case measure=>simp [intOf]; omega
    ·obtain rfl:i=R.length:=by omega
     have q1:(tx.toList == tx.toList)=true:=beq_self_eq_true _
     have q2:(ee == ee)=true:=beq_self_eq_true _
     have HB9:=Lib.hid (HC2.out.below.trans (HB3.out.mono HC2.out.below.size))
     clear HC2 HB3
     go_wp2_with fail
     refine (HK.out _ HB9.out).mono ?_
     rintro e w4 ⟨rfl,hb4⟩
     have HB10:=Lib.hid (bthen HB9.out hb4)
     clear hb4
     go_wp2
     go_ret
     exact ⟨rfl,HB10.out⟩
end Go.Proofs.YtglaeambknhjlaaGreatDoor.Q
end
