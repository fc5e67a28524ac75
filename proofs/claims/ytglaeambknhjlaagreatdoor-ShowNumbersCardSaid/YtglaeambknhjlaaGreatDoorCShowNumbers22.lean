/- Texts under the proof, joined by a program (prune.py): QShow4, QShow5, QShow6, QShow7, QShow8, Q120. -/
import Derived.Test.YtglaeambknhjlaaGreatDoorCShowNumbers21
import Derived.Test.YtglaeambknhjlaaGreatDoorCShowNumbers17
import Derived.Test.YtglaeambknhjlaaGreatDoorCShowNumbers13
import Derived.Test.YtglaeambknhjlaaGreatDoorCShowNumbers11
set_option linter.unusedVariables false
set_option linter.unusedSimpArgs false
set_option exponentiation.threshold 20001
set_option maxHeartbeats 8000000
set_option maxRecDepth 100000
section
namespace Go.Proofs.ZQ
open Go.RowKit Go.Proofs.ZW.Wa Go.Proofs.ZP Go.Proofs.ZW.Wb Go.Proofs.ZW.Wc
attribute [local go_sem] zaE zaD zaL zaK
theorem placed_low (d it:ByteArray) (e:Int) (w:World) (hd:1≤d.size∧d.size≤5000) (he : -5≤e∧e<0) :
  Calls Tryz.prog 92 #[.string d,.int .i64 e] w fun r w'=>r = .returned (.string (plcR d e it))∧Below w.heap.size w w':=by
 have hne:¬ (e < -5∨max (d.size:Int) 6≤e):=by omega
 have HV:=Lib.hid (show plcR d e it=_ from (if_neg hne).trans (if_pos he.2))
 obtain ⟨c,hc⟩:∃ c:Nat,-e-1=(c:Int):=⟨(-e-1).toNat,by omega⟩
 have HR:=Lib.hid (fun W=>repeat_calls c W (by omega))
 have hcz:(-e-1).toNat=c:=by omega
 rw [hcz] at HV
 have hzs:=zbx c
 have hw1:wrap64 (-e) = -e:=by unfold wrap64; omega
 have hw2:wrap64 (-e-1) = -e-1:=by unfold wrap64; omega
 have hs1:(⟨#[48,46]⟩:ByteArray).size+(zer c).size≤9223372036854775807:=by rw [hzs]; show 2+_≤_; omega
 have hs2:2+(zer c).size≤9223372036854775807:=by rw [hzs]; omega
 have hs3:2+(zer c).size+d.size≤9223372036854775807:=by rw [hzs]; omega
 have hs4:((⟨#[48,46]⟩:ByteArray)++zer c).size+d.size≤9223372036854775807:=by rw [ByteArray.size_append,hzs]; show 2+_+_≤_; omega
 have HC:=Lib.hid hc
 have h5:¬ e < -5:=by omega
 have h6:¬ e≥6:=by omega
 have h7:¬ e≥(d.size:Int):=by omega
 have h8:e<0:=he.2
 clear hne hc hcz hzs
 rcases (show (d.size:Int)<6∨¬ (d.size:Int)<6 by omega) with h9|h9
 all_goals
  go_enter Tryz.func92,Tryz.ntmps92
  go_wp2_with fail
  rw [HC.out]
  refine (HR.out _).mono ?_
  rintro r w1 ⟨rfl,hb⟩
  have HB:=Lib.hid hb
  clear hb
  go_wp2
  go_ret
  exact ⟨by rw [HV.out]; rfl,HB.out⟩
theorem placed_long (d it:ByteArray) (e:Int) (w:World) (hd:1≤d.size∧d.size≤5000) (he:0≤e∧e<max (d.size:Int) 6) (hl:(d.size:Int)-1≤e) :
  Calls Tryz.prog 92 #[.string d,.int .i64 e] w fun r w'=>r = .returned (.string (plcR d e it))∧Below w.heap.size w w':=by
 have hne:¬ (e < -5∨max (d.size:Int) 6≤e):=by omega
 have HV:=Lib.hid (show plcR d e it=_ from (if_neg hne).trans ((if_neg (by omega)).trans (if_pos hl)))
 obtain ⟨c,hc⟩:∃ c:Nat,e-d.size+1=(c:Int):=⟨(e-d.size+1).toNat,by omega⟩
 have HR:=Lib.hid (fun W=>repeat_calls c W (by omega))
 have hcz:(e-d.size+1).toNat=c:=by omega
 rw [hcz] at HV
 have hzs:=zbx c
 have hw0:wrap64 ((d.size:Int)-1)=(d.size:Int)-1:=by unfold wrap64; omega
 have hw1:wrap64 (e-d.size)=e-d.size:=by unfold wrap64; omega
 have hw2:wrap64 (e-d.size+1)=e-d.size+1:=by unfold wrap64; omega
 have hs3:d.size+(zer c).size≤9223372036854775807:=by rw [hzs]; omega
 have h5:¬ e < -5:=by omega
 have h8:¬ e<0:=by omega
 have hlt:e<6∨e<(d.size:Int):=by omega
 have hl':e≥(d.size:Int)-1:=hl
 have HC:=Lib.hid hc
 clear hne hc hcz hzs
 rcases (show ((d.size:Int)<6∧¬ e≥6)∨(¬ (d.size:Int)<6∧¬ e≥(d.size:Int)) by omega) with ⟨h9,h10⟩|⟨h9,h10⟩
 all_goals
  go_enter Tryz.func92,Tryz.ntmps92
  go_wp2_with fail
  rw [HC.out]
  refine (HR.out _).mono ?_
  rintro r w1 ⟨rfl,hb⟩
  have HB:=Lib.hid hb
  clear hb
  go_wp2
  go_ret
  exact ⟨by rw [HV.out]; rfl,HB.out⟩
theorem placed_mid (d it:ByteArray) (e:Int) (w:World) (hd:1≤d.size∧d.size≤5000) (he:0≤e∧e<max (d.size:Int) 6) (hl:¬ (d.size:Int)-1≤e) :
  Calls Tryz.prog 92 #[.string d,.int .i64 e] w fun r w'=>r = .returned (.string (plcR d e it))∧Below w.heap.size w w':=by
 have hne:¬ (e < -5∨max (d.size:Int) 6≤e):=by omega
 have HV:=Lib.hid (show plcR d e it=_ from (if_neg hne).trans ((if_neg (by omega)).trans (if_neg hl)))
 obtain ⟨K,hK⟩:∃ K:Nat,e+1=(K:Int):=⟨(e+1).toNat,by omega⟩
 have hkt:(e+1).toNat=K:=by omega
 rw [hkt] at HV
 have hw0:wrap64 ((d.size:Int)-1)=(d.size:Int)-1:=by unfold wrap64; omega
 have hw1:wrap64 (e+1)=(K:Int):=by rw [hK]; unfold wrap64; omega
 have hw2:IntKind.i64.wrap (e+1)=(K:Int):=by rw [hK]; exact IntWalk.i64_in _ (by omega)
 have hk0:(0:Int)≤(K:Int):=by omega
 have hk1:(K:Int)≤(d.size:Int):=by omega
 have hx0:(d.extract 0 K).size=K:=by rw [ByteArray.size_extract]; omega
 have hx1:(d.extract K d.size).size=d.size-K:=by rw [ByteArray.size_extract]; omega
 have hs1:(d.extract 0 K).size+1≤9223372036854775807:=by rw [hx0]; omega
 have hs2:((d.extract 0 K)++(⟨#[46]⟩:ByteArray)).size+(d.extract K d.size).size≤9223372036854775807:=by rw [ByteArray.size_append,hx0,hx1]; show K+1+_≤_; omega
 have hs3:(d.extract 0 K).size+1+(d.extract K d.size).size≤9223372036854775807:=by rw [hx0,hx1]; omega
 have hs4:min K d.size+1≤9223372036854775807:=by omega
 have hs5:min K d.size+1+(d.size-K)≤9223372036854775807:=by omega
 have h5:¬ e < -5:=by omega
 have h8:¬ e<0:=by omega
 have hl':¬ e≥(d.size:Int)-1:=hl
 have h11:e<6∨e<(d.size:Int):=by omega
 clear hne hx0 hx1 hkt hl he hd hK
 rcases (show ((d.size:Int)<6∧¬ e≥6)∨(¬ (d.size:Int)<6∧¬ e≥(d.size:Int)) by omega) with ⟨h9,h10⟩|⟨h9,h10⟩
 all_goals
  go_enter Tryz.func92,Tryz.ntmps92
  go_wp2_with fail
  first|(go_region_held (fun _=>True) (exact trivial) ((first|fail)))|fail
  all_goals
   go_wp2
   go_ret
   exact ⟨by rw [HV.out]; rfl,zar (Below.refl _ _)⟩
end Go.Proofs.ZQ
end
section
namespace Go.Proofs.ZQ
open Go.RowKit Go.Proofs.ZW.Wa Go.Proofs.ZP Go.Proofs.ZW.Wb Go.Proofs.ZW.Wc
theorem placed_calls (d it:ByteArray) (e:Int) (w:World) (hd:1≤d.size∧d.size≤5000) (hit:it.size≤1000) (hl : -100000≤e∧e≤100000) (HI:Calls Tryz.prog 170 #[.int .i64 e] w fun r w'=>r = .returned (.string it)∧Below w.heap.size w w') :
  Calls Tryz.prog 92 #[.string d,.int .i64 e] w fun r w'=>r = .returned (.string (plcR d e it))∧Below w.heap.size w w':=by
 by_cases h1:e < -5∨max (d.size:Int) 6≤e
 ·exact placed_exp d it e w hd hit h1 hl HI
 ·by_cases h2:e<0
  ·exact placed_low d it e w hd (by omega)
  ·by_cases h3:(d.size:Int)-1≤e
   ·exact placed_long d it e w hd (by omega) h3
   ·exact placed_mid d it e w hd (by omega) h3
theorem below_ans {a b:ByteArray} {x:Rat} (h:RR a b x):Ans 88 #[.agg #[.string a,.string b]] (.bool (decide (x.num<0))):=by
 intro w
 have hp:0<a.size:=by
  rw [h.num,←zav]
  by_cases hn:x.num<0
  ·rw [zbW hn,ByteArray.data_append,Array.toList_append]; simp
  ·rw [zaN (by omega)]; exact (T_can _).1
 have hb:(((a[0]'hp).toNat:Int) == 45)=decide (x.num<0):=by
  have e1:a[0]'hp=a.data.toList[0]'(by rw [zav]; exact hp):=rfl
  have hl:a.data.toList=(wtext x.num).data.toList:=by rw [h.num]
  by_cases hn:x.num<0
  ·have h2:a.data.toList=45 :: (T x.num.natAbs).data.toList:=by rw [hl,zbW hn,ByteArray.data_append,Array.toList_append]; rfl
   have e2:a[0]'hp=45:=by rw [e1]; simp [h2]
   rw [e2,decide_eq_true hn]; rfl
  ·have h2:a.data.toList=(T x.num.natAbs).data.toList:=by rw [hl,zaN (by omega)]
   have h3:a[0]'hp∈(T x.num.natAbs).data.toList:=by rw [←h2,e1]; exact List.getElem_mem _
   have h4:=(T_can x.num.natAbs).2.1 _ h3
   rw [decide_eq_false hn,beq_eq_false_iff_ne]
   omega
 have hlt:(0:Int)<(a.size:Int):=by omega
 have HB:=Lib.hid hb
 clear hb
 go_enter Tryz.func88,Tryz.ntmps88
 have hba:=zab (Below.refl w.heap.size w) (.cells #[.string a,.string b] 23)
 have HBA:=Lib.hid hba
 clear hba
 go_wp2
 go_ret
 exact ⟨by rw [←HB.out]; rfl,HBA.out⟩
theorem rat_right_no {a b:ByteArray} (h:¬ ∃ x,RR a b x):Ans 35 #[.agg #[.string a,.string b]] (.bool false):=fun W=>right_walk a b false W ⟨fun e=>by (cases e),fun e=>absurd e h⟩
theorem fixed_no (a b:ByteArray) (n:Int) (HA:Ans 35 #[.agg #[.string a,.string b]] (.bool false)):Ans 21 #[.agg #[.string a,.string b],.int .i64 n] (.tuple #[.string ⟨#[]⟩,.int .i64 3]):=by
 intro w
 have HA:=Lib.hid HA
 go_enter Tryz.func21,Tryz.ntmps21
 have fa:=RbAt.new w a b
 have hba:=zab (Below.refl w.heap.size w) (.cells #[.string a,.string b] 23)
 go_wp2_with fail
 generalize w.alloc (.cells #[.string a,.string b] 23)=W0 at *
 have HFA:=Lib.hid fa
 have HBA:=Lib.hid hba
 clear fa hba
 refine (HA.out _).mono ?_
 rintro e w1 ⟨rfl,hb⟩
 replace HFA:=Lib.hid (HFA.out.below hb)
 replace HBA:=Lib.hid (bthen HBA.out hb)
 clear hb
 go_wp2
 go_ret2
 exact ⟨rfl,HBA.out⟩
theorem fixed_arg (a b:ByteArray) (n:Int) (hn:n<0∨40<n) (HA:Ans 35 #[.agg #[.string a,.string b]] (.bool true)):Ans 21 #[.agg #[.string a,.string b],.int .i64 n] (.tuple #[.string ⟨#[]⟩,.int .i64 1]):=by
 have HN:=Lib.hid hn
 clear hn
 intro w
 have HA:=Lib.hid HA
 go_enter Tryz.func21,Tryz.ntmps21
 have fa:=RbAt.new w a b
 have hba:=zab (Below.refl w.heap.size w) (.cells #[.string a,.string b] 23)
 go_wp2_with fail
 generalize w.alloc (.cells #[.string a,.string b] 23)=W0 at *
 have HFA:=Lib.hid fa
 have HBA:=Lib.hid hba
 clear fa hba
 refine (HA.out _).mono ?_
 rintro e w1 ⟨rfl,hb⟩
 replace HFA:=Lib.hid (HFA.out.below hb)
 replace HBA:=Lib.hid (bthen HBA.out hb)
 clear hb
 by_cases h1:n<0
 ·go_wp2
  go_ret2
  exact ⟨rfl,HBA.out⟩
 ·have h2:n>40:=by have:=HN.out; omega
  go_wp2
  go_ret2
  exact ⟨rfl,HBA.out⟩
theorem number_no (a b:ByteArray) (n:Int) (HA:Ans 35 #[.agg #[.string a,.string b]] (.bool false)):Ans 19 #[.agg #[.string a,.string b],.int .i64 n] (.tuple #[.string ⟨#[]⟩,.int .i64 3]):=by
 intro w
 have HA:=Lib.hid HA
 go_enter Tryz.func19,Tryz.ntmps19
 have fa:=RbAt.new w a b
 have hba:=zab (Below.refl w.heap.size w) (.cells #[.string a,.string b] 23)
 go_wp2_with fail
 generalize w.alloc (.cells #[.string a,.string b] 23)=W0 at *
 have HFA:=Lib.hid fa
 have HBA:=Lib.hid hba
 clear fa hba
 refine (HA.out _).mono ?_
 rintro e w1 ⟨rfl,hb⟩
 replace HFA:=Lib.hid (HFA.out.below hb)
 replace HBA:=Lib.hid (bthen HBA.out hb)
 clear hb
 go_wp2
 go_ret2
 exact ⟨rfl,HBA.out⟩
theorem number_arg (a b:ByteArray) (n:Int) (hn:n<1∨40<n) (HA:Ans 35 #[.agg #[.string a,.string b]] (.bool true)):Ans 19 #[.agg #[.string a,.string b],.int .i64 n] (.tuple #[.string ⟨#[]⟩,.int .i64 1]):=by
 have HN:=Lib.hid hn
 clear hn
 intro w
 have HA:=Lib.hid HA
 go_enter Tryz.func19,Tryz.ntmps19
 have fa:=RbAt.new w a b
 have hba:=zab (Below.refl w.heap.size w) (.cells #[.string a,.string b] 23)
 go_wp2_with fail
 generalize w.alloc (.cells #[.string a,.string b] 23)=W0 at *
 have HFA:=Lib.hid fa
 have HBA:=Lib.hid hba
 clear fa hba
 refine (HA.out _).mono ?_
 rintro e w1 ⟨rfl,hb⟩
 replace HFA:=Lib.hid (HFA.out.below hb)
 replace HBA:=Lib.hid (bthen HBA.out hb)
 clear hb
 by_cases h1:n<1
 ·go_wp2
  go_ret2
  exact ⟨rfl,HBA.out⟩
 ·have h2:n>40:=by have:=HN.out; omega
  go_wp2
  go_ret2
  exact ⟨rfl,HBA.out⟩
theorem fixed_ok (a b d:ByteArray) (n e0:Int) (h0:0≤n) (h1:n≤40) (HA:Ans 35 #[.agg #[.string a,.string b]] (.bool true)) (HD:Ans 31 #[.agg #[.string a,.string b],.int .i64 n] (.tuple #[.string d,.int .i64 e0])):Ans 21 #[.agg #[.string a,.string b],.int .i64 n] (.tuple #[.string d,.int .i64 e0]):=by
 have HD:=Lib.hid HD
 have k1:¬ n<0:=by omega
 have k2:¬ n>40:=by omega
 clear h0 h1
 intro w
 have HA:=Lib.hid HA
 go_enter Tryz.func21,Tryz.ntmps21
 have fa:=RbAt.new w a b
 have hba:=zab (Below.refl w.heap.size w) (.cells #[.string a,.string b] 23)
 go_wp2_with fail
 generalize w.alloc (.cells #[.string a,.string b] 23)=W0 at *
 have HFA:=Lib.hid fa
 have HBA:=Lib.hid hba
 clear fa hba
 refine (HA.out _).mono ?_
 rintro e w1 ⟨rfl,hb⟩
 replace HFA:=Lib.hid (HFA.out.below hb)
 replace HBA:=Lib.hid (bthen HBA.out hb)
 clear hb
 have c0:=HFA.out.c0
 have c1:=HFA.out.c1
 go_wp2_with fail
 refine (HD.out _).mono ?_
 rintro e w2 ⟨rfl,hb⟩
 replace HBA:=Lib.hid (bthen HBA.out hb)
 clear hb c0 c1
 go_wp2
 go_ret2
 exact ⟨rfl,HBA.out⟩
theorem number_zero (a b:ByteArray) (n:Int) (h0:1≤n) (h1:n≤40) (hz:a.toList=([48]:List UInt8)) (HA:Ans 35 #[.agg #[.string a,.string b]] (.bool true)):Ans 19 #[.agg #[.string a,.string b],.int .i64 n] (.tuple #[.string ⟨#[48]⟩,.int .i64 0]):=by
 have k1:¬ n<1:=by omega
 have k2:¬ n>40:=by omega
 have hzb:(a.toList == ([48]:List UInt8))=true:=by simpa using hz
 clear h0 h1 hz
 intro w
 have HA:=Lib.hid HA
 go_enter Tryz.func19,Tryz.ntmps19
 have fa:=RbAt.new w a b
 have hba:=zab (Below.refl w.heap.size w) (.cells #[.string a,.string b] 23)
 go_wp2_with fail
 generalize w.alloc (.cells #[.string a,.string b] 23)=W0 at *
 have HFA:=Lib.hid fa
 have HBA:=Lib.hid hba
 clear fa hba
 refine (HA.out _).mono ?_
 rintro e w1 ⟨rfl,hb⟩
 replace HFA:=Lib.hid (HFA.out.below hb)
 replace HBA:=Lib.hid (bthen HBA.out hb)
 clear hb
 have c0:=HFA.out.c0
 go_wp2
 go_ret2
 exact ⟨rfl,HBA.out⟩
theorem zc4 (x:Rat):x.abs.num=(x.num.natAbs:Int)∧x.abs.den=x.den:=by
 unfold Rat.abs
 split
 ·rename_i h
  have:=Rat.num_nonneg.2 h
  exact ⟨by omega,rfl⟩
 ·rename_i h
  have h2:x.num<0:=by
   rcases Int.lt_or_le x.num 0 with h3|h3
   ·exact h3
   ·exact absurd (Rat.num_nonneg.1 h3) h
  exact ⟨by rw [Rat.neg_num]; omega,rfl⟩
theorem rnd_size {x:Rat} {n:Int} (hs:Sz 600 x) (hb:Bdr 2000 x) (hn:1≤n∧n≤40):1≤(rndR x n).1.size∧(rndR x n).1.size≤5000:=by
 have hel:=expR_le hs
 have hm:=bd_even ((hb.mul (Bdr.tenR (n-1-expR x))).mono (show 2000+(4*(n-1-expR x).natAbs+1)≤4801 by omega))
 have hsz:(wtext (evenR (x*tenR (n-1-expR x)))).size≤4803∧1≤(wtext (evenR (x*tenR (n-1-expR x)))).size:=by
  generalize evenR (x*tenR (n-1-expR x))=m at *
  have h1:(T m.natAbs).size≤4802:=(zaM (k:=4802) (by decide)).2 (Nat.lt_of_lt_of_le hm (Nat.pow_le_pow_left (show 2≤10 by decide) 4802))
  have h2:=za2 m.natAbs
  by_cases hx:m<0
  ·rw [zbW hx,ByteArray.size_append]
   have:(⟨#[45]⟩:ByteArray).size=1:=rfl
   omega
  ·rw [zaN (by omega)]; omega
 unfold rndR
 dsimp only
 generalize wtext (evenR (x*tenR (n-1-expR x)))=s at *
 split
 ·rename_i h
  show 1≤(s.extract 0 n.toNat).size∧(s.extract 0 n.toNat).size≤5000
  rw [ByteArray.size_extract]
  omega
 ·show 1≤s.size∧s.size≤5000
  omega
theorem plc_size {d it:ByteArray} {e:Int} (hd:1≤d.size∧d.size≤5000) (hit:it.size≤1000) (hl : -100000≤e∧e≤100000):(plcR d e it).size≤1000000:=by
 have h1:(⟨#[46]⟩:ByteArray).size=1:=rfl
 have h2:(⟨#[101]⟩:ByteArray).size=1:=rfl
 have h3:(⟨#[48,46]⟩:ByteArray).size=2:=rfl
 unfold plcR
 split
 ·split<;>(simp only [ByteArray.size_append,ByteArray.size_extract,h1,h2]; omega)
 ·split
  ·simp only [ByteArray.size_append,zbx,h3]; omega
  ·split
   ·simp only [ByteArray.size_append,zbx]; omega
   ·simp only [ByteArray.size_append,ByteArray.size_extract,h1]; omega
theorem number_ok (a b it:ByteArray) (x:Rat) (n:Int) (w:World) (h0:1≤n) (h1:n≤40) (hx:RR a b x) (hz:x≠0) (hit:it.size≤1000) (HI:∀ W,Below w.heap.size w W→Calls Tryz.prog 170 #[.int .i64 (rndR x.abs n).2] W fun r w'=>r = .returned (.string it)∧Below W.heap.size W w') :
  Calls Tryz.prog 19 #[.agg #[.string a,.string b],.int .i64 n] w fun r w'=>r = .returned (.tuple #[.string ((if x.num<0 then (⟨#[45]⟩:ByteArray) else ⟨#[]⟩)++plcR (rndR x.abs n).1 (rndR x.abs n).2 it),.int .i64 0])∧Below w.heap.size w w':=by
 have HA:=zbd hx
 have HBl:=Lib.hid (below_ans hx)
 have HRd:=Lib.hid (fun W=>fread_yes hx W)
 obtain ⟨e1,e2⟩:=zc4 x
 have hn0:=num_ne hz
 have hsz:Sz 600 x.abs:=by unfold Sz; rw [e1,e2,Int.natAbs_natCast]; exact rr_sz hx
 have hbd:Bdr 2000 x.abs:=⟨by rw [e1]; exact hx.bd.1.abs,by rw [e2]; exact hx.bd.2⟩
 have hpos:0<x.abs.num:=by rw [e1]; omega
 have HBX:=Lib.hid hx.bd
 have hel:=expR_le hsz
 have hrs:=rnd_size (n:=n) hsz hbd ⟨h0,h1⟩
 have hr2 : -100000≤(rndR x.abs n).2∧(rndR x.abs n).2≤100000:=by
  unfold rndR; dsimp only; split<;>(dsimp only; omega)
 have HRo:=Lib.hid (fun W g (h:RatAt W g x.abs)=>rounded_calls g x.abs n W h hpos hsz hbd ⟨h0,h1⟩)
 have HI:=Lib.hid HI
 have HPl:=Lib.hid (fun W (h:Below w.heap.size w W)=>placed_calls (rndR x.abs n).1 it (rndR x.abs n).2 W hrs hit hr2 (HI.out W h))
 have hzb:(a.toList == ([48]:List UInt8))=false:=by
  rw [beq_eq_false_iff_ne]; exact fun e=>hz ((rr_zero hx).1 e)
 have k1:¬ n<1:=by omega
 have k2:¬ n>40:=by omega
 have HPS:=Lib.hid (plc_size (d:=(rndR x.abs n).1) (e:=(rndR x.abs n).2) hrs hit hr2)
 clear h0 h1 hx hz hit e1 e2 hn0 hsz hbd hpos hel hrs hr2
 generalize (rndR x.abs n).1=d at *
 generalize (rndR x.abs n).2=e at *
 generalize plcR d e it=pl at *
 have hbool:decide (x.num<0)=true∨decide (x.num<0)=false:=by cases decide (x.num<0)<;>simp
 revert HA
 intro HA
 have HA:=Lib.hid HA
 go_enter Tryz.func19,Tryz.ntmps19
 have fa:=RbAt.new w a b
 have hba:=zab (Below.refl w.heap.size w) (.cells #[.string a,.string b] 23)
 go_wp2_with fail
 generalize w.alloc (.cells #[.string a,.string b] 23)=W0 at *
 have HFA:=Lib.hid fa
 have HBA:=Lib.hid hba
 clear fa hba
 refine (HA.out _).mono ?_
 rintro e w1 ⟨rfl,hb⟩
 replace HFA:=Lib.hid (HFA.out.below hb)
 replace HBA:=Lib.hid (bthen HBA.out hb)
 clear hb
 have c0:=HFA.out.c0
 have c1:=HFA.out.c1
 go_wp2_with fail
 refine (HBl.out _).mono ?_
 rintro e3 w2 ⟨rfl,hb⟩
 have f2:=HFA.out.below hb
 clear c0 c1
 have c0:=f2.c0
 have c1:=f2.c1
 replace HBA:=Lib.hid (bthen HBA.out hb)
 clear hb
 have hp1:=HPS.out
 have hp2:1+pl.size≤9223372036854775807:=by omega
 have hp3:(⟨#[45]⟩:ByteArray).size+pl.size≤9223372036854775807:=hp2
 have hp4:0+pl.size≤9223372036854775807:=by omega
 have hp5:(⟨#[]⟩:ByteArray).size+pl.size≤9223372036854775807:=hp4
 have hp6:pl.size≤9223372036854775807:=by omega
 by_cases hn:x.num<0
 all_goals
  first
  | (have hdec:decide (x.num<0)=true:=decide_eq_true hn; rw [hdec])
  | (have hdec:decide (x.num<0)=false:=decide_eq_false hn; rw [hdec])
  go_wp2_with fail
  refine (HRd.out _).mono ?_
  rintro e4 w3 ⟨g,rfl,hg,hr3,hb3⟩
  have hge:w.heap.size≤g:=by have:=HBA.out.size; omega
  go_wp2_with fail
  refine (rabs_calls g g x _ hr3.slot hr3 HBX.out (by decide)).mono ?_
  rintro e5 w4 ⟨rfl,hr4,hu4⟩
  have hB4:=hu4.new (bthen HBA.out hb3) hge
  clear hr3 hu4 hb3 hg hge c0 c1
  go_wp2_with fail
  refine (HRo.out _ g hr4).mono ?_
  rintro e6 w5 ⟨rfl,hb5⟩
  have hB5:=bthen hB4 hb5
  clear hr4 hB4 hb5
  go_wp2_with fail
  refine (HPl.out _ hB5).mono ?_
  rintro e7 w6 ⟨rfl,hb6⟩
  have HB6:=Lib.hid (bthen hB5 hb6)
  have HNN:=Lib.hid hn
  clear hB5 hb6 hn
  go_wp2
  all_goals go_ret2
  all_goals refine ⟨?_,HB6.out⟩
  all_goals first
  | (exfalso; have h9:=HNN.out; omega)
  | rfl
  | (rw [show (⟨#[]⟩:ByteArray)++pl=pl from by apply ByteArray.ext; simp]; rfl)
  | (rw [if_pos (show x.num<0 by have:=HNN.out; omega)]; rfl)
  | (rw [if_neg (show ¬ x.num<0 by have:=HNN.out; omega)]; rfl)
  | (rw [if_neg (show ¬ x.num<0 by have:=HNN.out; omega),show (⟨#[]⟩:ByteArray)++pl=pl from by apply ByteArray.ext; simp]; rfl)
end Go.Proofs.ZQ
end
section
namespace Go.Proofs.ZQ
open Go.RowKit Go.Proofs.ZW.Wa Go.Proofs.ZW.Wb Go.Proofs.ZW.Wc
attribute [local go_sem] zaE zaD zaL zaK zaC zaB zaH zaG
noncomputable def c5_even.f (a0_0:Bool) (a0_1:ByteArray) (a0_2:ByteArray):Option (ByteArray):=(c1_Divide.f a0_1 a0_2).bind fun bt348=>((c1_Plus.f bt348.2 bt348.2).bind fun t350=>((c1_Compare.f t350 a0_2).bind fun t351=>(if t351>0 then ((c1_Plus.f bt348.1 (⟨#[49]⟩:ByteArray)).bind fun t352=>(some t352)) else (if t351=0 then (if 0≤(wrap64 ((bt348.1.size:Int)-1)) then (if (wrap64 ((bt348.1.size:Int)-1))<(bt348.1.size:Int) then (if ((((bt bt348.1 (wrap64 ((bt348.1.size:Int)-1)))-48)%256)%2)=1 then ((c1_Plus.f bt348.1 (⟨#[49]⟩:ByteArray)).bind fun t353=>(some t353)) else (some bt348.1)) else (none)) else (none)) else (some bt348.1)))))
theorem c5_even.calls (a0_0:Bool) (a0_1:ByteArray) (a0_2:ByteArray) (r:ByteArray) (w:World) (h:c5_even.f a0_0 a0_1 a0_2=some r) :
  Calls Tryz.prog 172 #[.agg #[.bool a0_0,.string a0_1,.string a0_2]] w fun e w'=>e = .returned (.string r)∧Below w.heap.size w w':=by
 have hu28:=Tryz.underlying28
 have HB:=Aside0.mk (Below.refl w.heap.size w)
 have H:((c1_Divide.f a0_1 a0_2).bind fun bt348=>((c1_Plus.f bt348.2 bt348.2).bind fun t350=>((c1_Compare.f t350 a0_2).bind fun t351=>(if t351>0 then ((c1_Plus.f bt348.1 (⟨#[49]⟩:ByteArray)).bind fun t352=>(some t352)) else (if t351=0 then (if 0≤(wrap64 ((bt348.1.size:Int)-1)) then (if (wrap64 ((bt348.1.size:Int)-1))<(bt348.1.size:Int) then (if ((((bt bt348.1 (wrap64 ((bt348.1.size:Int)-1)))-48)%256)%2)=1 then ((c1_Plus.f bt348.1 (⟨#[49]⟩:ByteArray)).bind fun t353=>(some t353)) else (some bt348.1)) else (none)) else (none)) else (some bt348.1))))))=some r:=h
 clear h
 replace H:=Option.bind_eq_some_iff.mp H
 obtain ⟨⟨t348,t349⟩,A20,H⟩:=H
 replace H:((c1_Plus.f t349 t349).bind fun t350=>((c1_Compare.f t350 a0_2).bind fun t351=>(if t351>0 then ((c1_Plus.f t348 (⟨#[49]⟩:ByteArray)).bind fun t352=>(some t352)) else (if t351=0 then (if 0≤(wrap64 ((t348.size:Int)-1)) then (if (wrap64 ((t348.size:Int)-1))<(t348.size:Int) then (if ((((bt t348 (wrap64 ((t348.size:Int)-1)))-48)%256)%2)=1 then ((c1_Plus.f t348 (⟨#[49]⟩:ByteArray)).bind fun t353=>(some t353)) else (some t348)) else (none)) else (none)) else (some t348)))))=some r:=H
 have A2:=Aside0.mk A20
 clear A20
 replace H:=Option.bind_eq_some_iff.mp H
 obtain ⟨t350,A30,H⟩:=H
 replace H:((c1_Compare.f t350 a0_2).bind fun t351=>(if t351>0 then ((c1_Plus.f t348 (⟨#[49]⟩:ByteArray)).bind fun t352=>(some t352)) else (if t351=0 then (if 0≤(wrap64 ((t348.size:Int)-1)) then (if (wrap64 ((t348.size:Int)-1))<(t348.size:Int) then (if ((((bt t348 (wrap64 ((t348.size:Int)-1)))-48)%256)%2)=1 then ((c1_Plus.f t348 (⟨#[49]⟩:ByteArray)).bind fun t353=>(some t353)) else (some t348)) else (none)) else (none)) else (some t348))))=some r:=H
 have A3:=Aside0.mk A30
 clear A30
 replace H:=Option.bind_eq_some_iff.mp H
 obtain ⟨t351,A40,H⟩:=H
 replace H:(if t351>0 then ((c1_Plus.f t348 (⟨#[49]⟩:ByteArray)).bind fun t352=>(some t352)) else (if t351=0 then (if 0≤(wrap64 ((t348.size:Int)-1)) then (if (wrap64 ((t348.size:Int)-1))<(t348.size:Int) then (if ((((bt t348 (wrap64 ((t348.size:Int)-1)))-48)%256)%2)=1 then ((c1_Plus.f t348 (⟨#[49]⟩:ByteArray)).bind fun t353=>(some t353)) else (some t348)) else (none)) else (none)) else (some t348)))=some r:=H
 have A4:=Aside0.mk A40
 clear A40
 by_cases c5:t351>0
 ·rw [if_pos c5] at H
  have c5b0:decide (0<t351)=true:=decide_eq_true c5
  clear c5
  replace H:=Option.bind_eq_some_iff.mp H
  obtain ⟨t352,A60,H⟩:=H
  replace H:(some t352)=some r:=H
  have A6:=Aside0.mk A60
  clear A60
  obtain rfl:=Option.some.inj H
  go_enter Tryz.func172,Tryz.ntmps172
  try go_wp2_with (first|((with_reducible refine zau (N:=1) rfl ?_); (try (refine zbm (by rfl) ?_; dsimp only)); refine zas ?hg (N:=1) ?hd (cs:=#[.bool a0_0,.string a0_1,.string a0_2]) (t:=28) ?hr ?_; (case hd=>rfl); (case hg=>rfl); (case hr=>first|(go_simp; done)|(go_simp; rfl)); intro gb347 hg w7 hbox hb; have n0_:=Aside0.mk (zak (by repeat (first|(with_reducible first|exact HB.out|apply zab|apply zaa|apply zac)|exact HB.out)) hb); have n1_:=Aside0.mk (hbox); have n2_:=Aside0.mk ((by rw [hg]; exact (zal (by repeat (first|(with_reducible first|exact HB.out|apply zab|apply zaa|apply zac)|exact HB.out))):w.heap.size≤gb347)); have n3_:=Aside0.mk ((by rw [hg]; exact (zal (by repeat (first|(with_reducible first|exact HB.out|apply zab|apply zaa|apply zac)|exact HB.out))):w.heap.size≤gb347)); clear HB; have HB:=n0_; have BK347:=n1_; have GW347:=n2_; have GE347:=n3_; clear n0_ n1_ n2_ n3_; clear hb hbox hg; have hcz8_0:w7.cell? ⟨gb347,0,none⟩=some (.bool a0_0):=(zad BK347.out 0).trans rfl; have hcz8_1:w7.cell? ⟨gb347,1,none⟩=some (.string a0_1):=(zad BK347.out 1).trans rfl; have hcz8_2:w7.cell? ⟨gb347,2,none⟩=some (.string a0_2):=(zad BK347.out 2).trans rfl; have hfz8_0:=zaj BK347.out 0; have hfz8_1:=zaj BK347.out 1; have hfz8_2:=zaj BK347.out 2)|((with_reducible refine zap (f:=128) rfl ?_); refine zaA (some 11) rfl rfl Tryz.func128 (by kernel_rfl) rfl #[.string a0_1,.string a0_2] rfl (by (try simp only [List.map_toArray,List.map_cons,List.map_nil]); first|done|rfl|(simp only [List.length_drop,List.length_take]; rfl)) ?_; (with_reducible refine (c1_Divide.calls a0_1 a0_2 t348 t349 _ A2.out).mono ?_); rintro e w9 ⟨rfl,hb⟩; refine ⟨_,rfl,?_⟩; have n0_:=Aside0.mk (zao (g:=gb347) (o:=.cells #[.bool a0_0,.string a0_1,.string a0_2] 28 (0,0)) (by (with_reducible repeat (first|refine zaf ?_ _|refine zai ?_|refine zag ?_ _)); exact BK347.out) hb); have n1_:=Aside0.mk (zak (by repeat (first|(with_reducible first|exact HB.out|apply zab|apply zaa|apply zac|refine zae ?_ GE347.out)|exact HB.out)) hb); clear BK347; clear HB; have BK347:=n0_; have HB:=n1_; clear n0_ n1_; (try clear hb); (try clear hb2); (try clear hk); (try clear hi)))
  have n0_:=Aside0.mk (zai BK347.out)
  have n1_:=Aside0.mk (zac HB.out)
  clear BK347
  clear HB
  have BK347:=n0_
  have HB:=n1_
  clear n0_ n1_
  refine zbY (n:=7) (S:=fun w'=>w'.cell? ⟨gb347,0,none⟩=some (.bool a0_0)∧w'.cell? ⟨gb347,1,none⟩=some (.string a0_1)∧w'.cell? ⟨gb347,2,none⟩=some (.string a0_2)) (ds:=[]) #[false,false,false,false,false,false,false] (by kernel_rfl) rfl rfl ⟨(zad BK347.out 0).trans rfl,(zad BK347.out 1).trans rfl,(zad BK347.out 2).trans rfl⟩ (fun hHeld => ?_)
  generalize w9.drew=w10 at BK347 HB hHeld ⊢
  refine pure_ (i:=0) (N:=some 14) (v:=?_) (a':=?_) #[true,false,false,false,false,false,false] rfl rfl (by kernel_rfl) (fun _ _ _ h=>h) (Or.inl ⟨by rfl,?_⟩) ?_ ?_
  rotate_left
  ·intro w'
   go_simp
   with_reducible rfl
  rotate_left
  ·simp only [Act.put,List.setIfInBounds_toArray,List.set_cons_zero,List.set_cons_succ,i64_w,i32_w]
   rfl
  refine pure_ (i:=1) (N:=some 15) (v:=?_) (a':=?_) #[true,true,false,false,false,false,false] rfl rfl (by kernel_rfl) (fun _ _ _ h=>h) (Or.inl ⟨by rfl,?_⟩) ?_ ?_
  rotate_left
  ·intro w'
   go_simp
   with_reducible rfl
  rotate_left
  ·simp only [Act.put,List.setIfInBounds_toArray,List.set_cons_zero,List.set_cons_succ,i64_w,i32_w]
   rfl
  refine pure_ (i:=3) (N:=some 17) (v:=?_) (a':=?_) #[true,true,false,true,false,false,false] rfl rfl (by kernel_rfl) (fun _ _ _ h=>h) (Or.inl ⟨by rfl,?_⟩) ?_ ?_
  rotate_left
  ·intro w'
   go_simp
   with_reducible rfl
  rotate_left
  ·simp only [Act.put,List.setIfInBounds_toArray,List.set_cons_zero,List.set_cons_succ,i64_w,i32_w]
   rfl
  refine take_ (i:=4) (N:=some 18) (v:=?_) (a':=?_) #[true,true,false,true,true,false,false] rfl rfl (by kernel_rfl) (fun _ _ _ h=>h) (Or.inl ⟨by rfl,?_⟩) hHeld ?_ ?_
  rotate_left
  ·rintro w' ⟨s0,s1,s2⟩
   go_simp
   with_reducible rfl
  rotate_left
  ·simp only [Act.put,List.setIfInBounds_toArray,List.set_cons_zero,List.set_cons_succ,i64_w,i32_w]
   rfl
  refine one_ (i:=2) (N:=some 16) #[true,true,true,true,true,false,false] rfl rfl (by kernel_rfl) (by decide) (fun K hK => ?_)
  refine goes_ Tryz.func129 (by kernel_rfl) rfl #[.string t349,.string t349] (by rfl) rfl rfl (by (try simp only [List.map_toArray,List.map_cons,List.map_nil]); first|done|rfl|(simp only [List.length_drop,List.length_take]; rfl)) ?_
  with_reducible refine (c1_Plus.calls t349 t349 t350 _ A3.out).mono ?_
  rintro e w11 ⟨rfl,hb⟩
  refine ⟨_,rfl,?_⟩
  have n0_:=Aside0.mk (zao (g:=gb347) (o:=.cells #[.bool a0_0,.string a0_1,.string a0_2] 28 (0,0)) (by (with_reducible repeat (first|refine zaf ?_ _|refine zai ?_|refine zag ?_ _)); exact BK347.out) hb)
  have n1_:=Aside0.mk (zak (by repeat (first|(with_reducible first|exact HB.out|apply zab|apply zaa|apply zac|refine zae ?_ GE347.out)|exact HB.out)) hb)
  clear BK347
  clear HB
  have BK347:=n0_
  have HB:=n1_
  clear n0_ n1_
  (try clear hb)
  (try clear hb2)
  (try clear hk)
  (try clear hi)
  refine hK.out _ _ ⟨(zad BK347.out 0).trans rfl,(zad BK347.out 1).trans rfl,(zad BK347.out 2).trans rfl⟩ (fun hHeld => ?_)
  clear hK K
  refine norm_ (a':=?_) ?_ ?_
  rotate_left
  ·show Act.put _ (some 16) _=_
   simp only [Act.put,List.setIfInBounds_toArray,List.set_cons_zero,List.set_cons_succ,i64_w,i32_w]
   rfl
  refine one_ (i:=5) (N:=some 19) #[true,true,true,true,true,true,false] rfl rfl (by kernel_rfl) (by decide) (fun K hK => ?_)
  refine goes_ Tryz.func147 (by kernel_rfl) rfl #[.string t350,.string a0_2] (by rfl) rfl rfl (by (try simp only [List.map_toArray,List.map_cons,List.map_nil]); first|done|rfl|(simp only [List.length_drop,List.length_take]; rfl)) ?_
  with_reducible refine (c1_Compare.calls t350 a0_2 t351 _ A4.out).mono ?_
  rintro e w12 ⟨rfl,hb⟩
  refine ⟨_,rfl,?_⟩
  have n0_:=Aside0.mk (zao (g:=gb347) (o:=.cells #[.bool a0_0,.string a0_1,.string a0_2] 28 (0,0)) (by (with_reducible repeat (first|refine zaf ?_ _|refine zai ?_|refine zag ?_ _)); exact BK347.out) hb)
  have n1_:=Aside0.mk (zak (by repeat (first|(with_reducible first|exact HB.out|apply zab|apply zaa|apply zac|refine zae ?_ GE347.out)|exact HB.out)) hb)
  clear BK347
  clear HB
  have BK347:=n0_
  have HB:=n1_
  clear n0_ n1_
  (try clear hb)
  (try clear hb2)
  (try clear hk)
  (try clear hi)
  refine hK.out _ _ ⟨(zad BK347.out 0).trans rfl,(zad BK347.out 1).trans rfl,(zad BK347.out 2).trans rfl⟩ (fun hHeld => ?_)
  clear hK K
  refine norm_ (a':=?_) ?_ ?_
  rotate_left
  ·show Act.put _ (some 19) _=_
   simp only [Act.put,List.setIfInBounds_toArray,List.set_cons_zero,List.set_cons_succ,i64_w,i32_w]
   rfl
  refine pure_ (i:=6) (N:=some 5) (v:=?_) (a':=?_) #[true,true,true,true,true,true,true] rfl rfl (by kernel_rfl) (fun _ _ _ h=>h) (Or.inl ⟨by rfl,?_⟩) ?_ ?_
  rotate_left
  ·intro w'
   go_simp
   with_reducible rfl
  rotate_left
  ·simp only [Act.put,List.setIfInBounds_toArray,List.set_cons_zero,List.set_cons_succ,i64_w,i32_w]
   rfl
  refine done_ (by kernel_rfl) ?_
  try go_wp2_with (first|((with_reducible refine zap (f:=129) rfl ?_); refine zaA (some 37) rfl rfl Tryz.func129 (by kernel_rfl) rfl #[.string t348,.string (⟨#[49]⟩:ByteArray)] rfl (by (try simp only [List.map_toArray,List.map_cons,List.map_nil]); first|done|rfl|(simp only [List.length_drop,List.length_take]; rfl)) ?_; (with_reducible refine (c1_Plus.calls t348 (⟨#[49]⟩:ByteArray) t352 _ A6.out).mono ?_); rintro e w13 ⟨rfl,hb⟩; refine ⟨_,rfl,?_⟩; have n0_:=Aside0.mk (zao (g:=gb347) (o:=.cells #[.bool a0_0,.string a0_1,.string a0_2] 28 (0,0)) (by (with_reducible repeat (first|refine zaf ?_ _|refine zai ?_|refine zag ?_ _)); exact BK347.out) hb); have n1_:=Aside0.mk (zak (by repeat (first|(with_reducible first|exact HB.out|apply zab|apply zaa|apply zac|refine zae ?_ GE347.out)|exact HB.out)) hb); clear BK347; clear HB; have BK347:=n0_; have HB:=n1_; clear n0_ n1_; (try clear hb); (try clear hb2); (try clear hk); (try clear hi)))
  go_ret
  exact ⟨by first|rfl|(simp [zan,zam]<;>rfl)|(simp [*,zan,zam]<;>rfl),by repeat (first|(with_reducible first|exact HB.out|apply zab|apply zaa|apply zac|refine zae ?_ GE347.out)|exact HB.out)⟩
 ·rw [if_neg c5] at H
  have c5b0:decide (0<t351)=false:=decide_eq_false c5
  clear c5
  by_cases c14:t351=0
  ·rw [if_pos c14] at H
   have c14b0:(t351 == 0)=true:=beq_iff_eq.mpr c14
   have c14b1:(t351 != 0)=false:=bne_eq_false_iff_eq.mpr c14
   clear c14
   obtain ⟨ji15,hji15⟩:∃ j_:Int,(wrap64 ((t348.size:Int)-1))=j_:=⟨_,rfl⟩
   replace H:(if 0≤(ji15) then (if (ji15)<(t348.size:Int) then (if ((((bt t348 (ji15))-48)%256)%2)=1 then ((c1_Plus.f t348 (⟨#[49]⟩:ByteArray)).bind fun t353=>(some t353)) else (some t348)) else (none)) else (none))=some r:=by first|(rw [hji15] at H; exact H)|(simp only [hji15] at H ⊢; exact H)
   (try rw [hji15] at A2)
   (try rw [hji15] at A3)
   (try rw [hji15] at A4)
   have hji15w:(IntKind.i64.wrap ((t348.size:Int)-1))=ji15:=(i64_w _).trans hji15
   by_cases c16:0≤(ji15)
   ·rw [if_pos c16] at H
    have c16b0:decide (0≤(ji15))=true:=decide_eq_true c16
    clear c16
    by_cases c17:(ji15)<(t348.size:Int)
    ·rw [if_pos c17] at H
     have c17b0:decide ((ji15)<(t348.size:Int))=true:=decide_eq_true c17
     clear c17
     by_cases c19:((((bt t348 (ji15))-48)%256)%2)=1
     ·rw [if_pos c19] at H
      have c19b0:(((((bt t348 (ji15))-48)%256)%2) == 1)=true:=beq_iff_eq.mpr c19
      have c19b1:(((((bt t348 (ji15))-48)%256)%2) != 1)=false:=bne_eq_false_iff_eq.mpr c19
      clear c19
      replace H:=Option.bind_eq_some_iff.mp H
      obtain ⟨t353,A200,H⟩:=H
      replace H:(some t353)=some r:=H
      have A20:=Aside0.mk A200
      clear A200
      obtain rfl:=Option.some.inj H
      go_enter Tryz.func172,Tryz.ntmps172
      try go_wp2_with (first|((with_reducible refine zau (N:=1) rfl ?_); (try (refine zbm (by rfl) ?_; dsimp only)); refine zas ?hg (N:=1) ?hd (cs:=#[.bool a0_0,.string a0_1,.string a0_2]) (t:=28) ?hr ?_; (case hd=>rfl); (case hg=>rfl); (case hr=>first|(go_simp; done)|(go_simp; rfl)); intro gb347 hg w21 hbox hb; have n0_:=Aside0.mk (zak (by repeat (first|(with_reducible first|exact HB.out|apply zab|apply zaa|apply zac)|exact HB.out)) hb); have n1_:=Aside0.mk (hbox); have n2_:=Aside0.mk ((by rw [hg]; exact (zal (by repeat (first|(with_reducible first|exact HB.out|apply zab|apply zaa|apply zac)|exact HB.out))):w.heap.size≤gb347)); have n3_:=Aside0.mk ((by rw [hg]; exact (zal (by repeat (first|(with_reducible first|exact HB.out|apply zab|apply zaa|apply zac)|exact HB.out))):w.heap.size≤gb347)); clear HB; have HB:=n0_; have BK347:=n1_; have GW347:=n2_; have GE347:=n3_; clear n0_ n1_ n2_ n3_; clear hb hbox hg; have hcz22_0:w21.cell? ⟨gb347,0,none⟩=some (.bool a0_0):=(zad BK347.out 0).trans rfl; have hcz22_1:w21.cell? ⟨gb347,1,none⟩=some (.string a0_1):=(zad BK347.out 1).trans rfl; have hcz22_2:w21.cell? ⟨gb347,2,none⟩=some (.string a0_2):=(zad BK347.out 2).trans rfl; have hfz22_0:=zaj BK347.out 0; have hfz22_1:=zaj BK347.out 1; have hfz22_2:=zaj BK347.out 2)|((with_reducible refine zap (f:=128) rfl ?_); refine zaA (some 11) rfl rfl Tryz.func128 (by kernel_rfl) rfl #[.string a0_1,.string a0_2] rfl (by (try simp only [List.map_toArray,List.map_cons,List.map_nil]); first|done|rfl|(simp only [List.length_drop,List.length_take]; rfl)) ?_; (with_reducible refine (c1_Divide.calls a0_1 a0_2 t348 t349 _ A2.out).mono ?_); rintro e w23 ⟨rfl,hb⟩; refine ⟨_,rfl,?_⟩; have n0_:=Aside0.mk (zao (g:=gb347) (o:=.cells #[.bool a0_0,.string a0_1,.string a0_2] 28 (0,0)) (by (with_reducible repeat (first|refine zaf ?_ _|refine zai ?_|refine zag ?_ _)); exact BK347.out) hb); have n1_:=Aside0.mk (zak (by repeat (first|(with_reducible first|exact HB.out|apply zab|apply zaa|apply zac|refine zae ?_ GE347.out)|exact HB.out)) hb); clear BK347; clear HB; have BK347:=n0_; have HB:=n1_; clear n0_ n1_; (try clear hb); (try clear hb2); (try clear hk); (try clear hi)))
      have n0_:=Aside0.mk (zai BK347.out)
      have n1_:=Aside0.mk (zac HB.out)
      clear BK347
      clear HB
      have BK347:=n0_
      have HB:=n1_
      clear n0_ n1_
      refine zbY (n:=7) (S:=fun w'=>w'.cell? ⟨gb347,0,none⟩=some (.bool a0_0)∧w'.cell? ⟨gb347,1,none⟩=some (.string a0_1)∧w'.cell? ⟨gb347,2,none⟩=some (.string a0_2)) (ds:=[]) #[false,false,false,false,false,false,false] (by kernel_rfl) rfl rfl ⟨(zad BK347.out 0).trans rfl,(zad BK347.out 1).trans rfl,(zad BK347.out 2).trans rfl⟩ (fun hHeld => ?_)
      generalize w23.drew=w24 at BK347 HB hHeld ⊢
      refine pure_ (i:=0) (N:=some 14) (v:=?_) (a':=?_) #[true,false,false,false,false,false,false] rfl rfl (by kernel_rfl) (fun _ _ _ h=>h) (Or.inl ⟨by rfl,?_⟩) ?_ ?_
      rotate_left
      ·intro w'
       go_simp
       with_reducible rfl
      rotate_left
      ·simp only [Act.put,List.setIfInBounds_toArray,List.set_cons_zero,List.set_cons_succ,i64_w,i32_w]
       rfl
      refine pure_ (i:=1) (N:=some 15) (v:=?_) (a':=?_) #[true,true,false,false,false,false,false] rfl rfl (by kernel_rfl) (fun _ _ _ h=>h) (Or.inl ⟨by rfl,?_⟩) ?_ ?_
      rotate_left
      ·intro w'
       go_simp
       with_reducible rfl
      rotate_left
      ·simp only [Act.put,List.setIfInBounds_toArray,List.set_cons_zero,List.set_cons_succ,i64_w,i32_w]
       rfl
      refine pure_ (i:=3) (N:=some 17) (v:=?_) (a':=?_) #[true,true,false,true,false,false,false] rfl rfl (by kernel_rfl) (fun _ _ _ h=>h) (Or.inl ⟨by rfl,?_⟩) ?_ ?_
      rotate_left
      ·intro w'
       go_simp
       with_reducible rfl
      rotate_left
      ·simp only [Act.put,List.setIfInBounds_toArray,List.set_cons_zero,List.set_cons_succ,i64_w,i32_w]
       rfl
      refine take_ (i:=4) (N:=some 18) (v:=?_) (a':=?_) #[true,true,false,true,true,false,false] rfl rfl (by kernel_rfl) (fun _ _ _ h=>h) (Or.inl ⟨by rfl,?_⟩) hHeld ?_ ?_
      rotate_left
      ·rintro w' ⟨s0,s1,s2⟩
       go_simp
       with_reducible rfl
      rotate_left
      ·simp only [Act.put,List.setIfInBounds_toArray,List.set_cons_zero,List.set_cons_succ,i64_w,i32_w]
       rfl
      refine one_ (i:=2) (N:=some 16) #[true,true,true,true,true,false,false] rfl rfl (by kernel_rfl) (by decide) (fun K hK => ?_)
      refine goes_ Tryz.func129 (by kernel_rfl) rfl #[.string t349,.string t349] (by rfl) rfl rfl (by (try simp only [List.map_toArray,List.map_cons,List.map_nil]); first|done|rfl|(simp only [List.length_drop,List.length_take]; rfl)) ?_
      with_reducible refine (c1_Plus.calls t349 t349 t350 _ A3.out).mono ?_
      rintro e w25 ⟨rfl,hb⟩
      refine ⟨_,rfl,?_⟩
      have n0_:=Aside0.mk (zao (g:=gb347) (o:=.cells #[.bool a0_0,.string a0_1,.string a0_2] 28 (0,0)) (by (with_reducible repeat (first|refine zaf ?_ _|refine zai ?_|refine zag ?_ _)); exact BK347.out) hb)
      have n1_:=Aside0.mk (zak (by repeat (first|(with_reducible first|exact HB.out|apply zab|apply zaa|apply zac|refine zae ?_ GE347.out)|exact HB.out)) hb)
      clear BK347
      clear HB
      have BK347:=n0_
      have HB:=n1_
      clear n0_ n1_
      (try clear hb)
      (try clear hb2)
      (try clear hk)
      (try clear hi)
      refine hK.out _ _ ⟨(zad BK347.out 0).trans rfl,(zad BK347.out 1).trans rfl,(zad BK347.out 2).trans rfl⟩ (fun hHeld => ?_)
      clear hK K
      refine norm_ (a':=?_) ?_ ?_
      rotate_left
      ·show Act.put _ (some 16) _=_
       simp only [Act.put,List.setIfInBounds_toArray,List.set_cons_zero,List.set_cons_succ,i64_w,i32_w]
       rfl
      refine one_ (i:=5) (N:=some 19) #[true,true,true,true,true,true,false] rfl rfl (by kernel_rfl) (by decide) (fun K hK => ?_)
      refine goes_ Tryz.func147 (by kernel_rfl) rfl #[.string t350,.string a0_2] (by rfl) rfl rfl (by (try simp only [List.map_toArray,List.map_cons,List.map_nil]); first|done|rfl|(simp only [List.length_drop,List.length_take]; rfl)) ?_
      with_reducible refine (c1_Compare.calls t350 a0_2 t351 _ A4.out).mono ?_
      rintro e w26 ⟨rfl,hb⟩
      refine ⟨_,rfl,?_⟩
      have n0_:=Aside0.mk (zao (g:=gb347) (o:=.cells #[.bool a0_0,.string a0_1,.string a0_2] 28 (0,0)) (by (with_reducible repeat (first|refine zaf ?_ _|refine zai ?_|refine zag ?_ _)); exact BK347.out) hb)
      have n1_:=Aside0.mk (zak (by repeat (first|(with_reducible first|exact HB.out|apply zab|apply zaa|apply zac|refine zae ?_ GE347.out)|exact HB.out)) hb)
      clear BK347
      clear HB
      have BK347:=n0_
      have HB:=n1_
      clear n0_ n1_
      (try clear hb)
      (try clear hb2)
      (try clear hk)
      (try clear hi)
      refine hK.out _ _ ⟨(zad BK347.out 0).trans rfl,(zad BK347.out 1).trans rfl,(zad BK347.out 2).trans rfl⟩ (fun hHeld => ?_)
      clear hK K
      refine norm_ (a':=?_) ?_ ?_
      rotate_left
      ·show Act.put _ (some 19) _=_
       simp only [Act.put,List.setIfInBounds_toArray,List.set_cons_zero,List.set_cons_succ,i64_w,i32_w]
       rfl
      refine pure_ (i:=6) (N:=some 5) (v:=?_) (a':=?_) #[true,true,true,true,true,true,true] rfl rfl (by kernel_rfl) (fun _ _ _ h=>h) (Or.inl ⟨by rfl,?_⟩) ?_ ?_
      rotate_left
      ·intro w'
       go_simp
       with_reducible rfl
      rotate_left
      ·simp only [Act.put,List.setIfInBounds_toArray,List.set_cons_zero,List.set_cons_succ,i64_w,i32_w]
       rfl
      refine done_ (by kernel_rfl) ?_
      have p18:0≤((ji15):Int):=of_decide_eq_true (by first|(with_reducible assumption)|assumption)
      have q18:(ji15)<(t348.size:Int):=of_decide_eq_true (by first|(with_reducible assumption)|assumption)
      have hx18:=bt_at t348 (ji15)
      replace p18:=eq_true p18
      replace q18:=eq_true q18
      try go_wp2_with (first|((with_reducible refine zap (f:=129) rfl ?_); refine zaA (some 37) rfl rfl Tryz.func129 (by kernel_rfl) rfl #[.string t348,.string (⟨#[49]⟩:ByteArray)] rfl (by (try simp only [List.map_toArray,List.map_cons,List.map_nil]); first|done|rfl|(simp only [List.length_drop,List.length_take]; rfl)) ?_; (with_reducible refine (c1_Plus.calls t348 (⟨#[49]⟩:ByteArray) t353 _ A20.out).mono ?_); rintro e w27 ⟨rfl,hb⟩; refine ⟨_,rfl,?_⟩; have n0_:=Aside0.mk (zao (g:=gb347) (o:=.cells #[.bool a0_0,.string a0_1,.string a0_2] 28 (0,0)) (by (with_reducible repeat (first|refine zaf ?_ _|refine zai ?_|refine zag ?_ _)); exact BK347.out) hb); have n1_:=Aside0.mk (zak (by repeat (first|(with_reducible first|exact HB.out|apply zab|apply zaa|apply zac|refine zae ?_ GE347.out)|exact HB.out)) hb); clear BK347; clear HB; have BK347:=n0_; have HB:=n1_; clear n0_ n1_; (try clear hb); (try clear hb2); (try clear hk); (try clear hi)))
      go_ret
      exact ⟨by first|rfl|(simp [zan,zam]<;>rfl)|(simp only [←hji15]; first|rfl|(simp [zan,zam]<;>rfl))|(simp [*,zan,zam]<;>rfl),by repeat (first|(with_reducible first|exact HB.out|apply zab|apply zaa|apply zac|refine zae ?_ GE347.out)|exact HB.out)⟩
     ·rw [if_neg c19] at H
      have c19b0:(((((bt t348 (ji15))-48)%256)%2) == 1)=false:=beq_eq_false_iff_ne.mpr c19
      have c19b1:(((((bt t348 (ji15))-48)%256)%2) != 1)=true:=bne_iff_ne.mpr c19
      obtain rfl:=Option.some.inj H
      go_enter Tryz.func172,Tryz.ntmps172
      try go_wp2_with (first|((with_reducible refine zau (N:=1) rfl ?_); (try (refine zbm (by rfl) ?_; dsimp only)); refine zas ?hg (N:=1) ?hd (cs:=#[.bool a0_0,.string a0_1,.string a0_2]) (t:=28) ?hr ?_; (case hd=>rfl); (case hg=>rfl); (case hr=>first|(go_simp; done)|(go_simp; rfl)); intro gb347 hg w28 hbox hb; have n0_:=Aside0.mk (zak (by repeat (first|(with_reducible first|exact HB.out|apply zab|apply zaa|apply zac)|exact HB.out)) hb); have n1_:=Aside0.mk (hbox); have n2_:=Aside0.mk ((by rw [hg]; exact (zal (by repeat (first|(with_reducible first|exact HB.out|apply zab|apply zaa|apply zac)|exact HB.out))):w.heap.size≤gb347)); have n3_:=Aside0.mk ((by rw [hg]; exact (zal (by repeat (first|(with_reducible first|exact HB.out|apply zab|apply zaa|apply zac)|exact HB.out))):w.heap.size≤gb347)); clear HB; have HB:=n0_; have BK347:=n1_; have GW347:=n2_; have GE347:=n3_; clear n0_ n1_ n2_ n3_; clear hb hbox hg; have hcz29_0:w28.cell? ⟨gb347,0,none⟩=some (.bool a0_0):=(zad BK347.out 0).trans rfl; have hcz29_1:w28.cell? ⟨gb347,1,none⟩=some (.string a0_1):=(zad BK347.out 1).trans rfl; have hcz29_2:w28.cell? ⟨gb347,2,none⟩=some (.string a0_2):=(zad BK347.out 2).trans rfl; have hfz29_0:=zaj BK347.out 0; have hfz29_1:=zaj BK347.out 1; have hfz29_2:=zaj BK347.out 2)|((with_reducible refine zap (f:=128) rfl ?_); refine zaA (some 11) rfl rfl Tryz.func128 (by kernel_rfl) rfl #[.string a0_1,.string a0_2] rfl (by (try simp only [List.map_toArray,List.map_cons,List.map_nil]); first|done|rfl|(simp only [List.length_drop,List.length_take]; rfl)) ?_; (with_reducible refine (c1_Divide.calls a0_1 a0_2 t348 t349 _ A2.out).mono ?_); rintro e w30 ⟨rfl,hb⟩; refine ⟨_,rfl,?_⟩; have n0_:=Aside0.mk (zao (g:=gb347) (o:=.cells #[.bool a0_0,.string a0_1,.string a0_2] 28 (0,0)) (by (with_reducible repeat (first|refine zaf ?_ _|refine zai ?_|refine zag ?_ _)); exact BK347.out) hb); have n1_:=Aside0.mk (zak (by repeat (first|(with_reducible first|exact HB.out|apply zab|apply zaa|apply zac|refine zae ?_ GE347.out)|exact HB.out)) hb); clear BK347; clear HB; have BK347:=n0_; have HB:=n1_; clear n0_ n1_; (try clear hb); (try clear hb2); (try clear hk); (try clear hi)))
      have n0_:=Aside0.mk (zai BK347.out)
      have n1_:=Aside0.mk (zac HB.out)
      clear BK347
      clear HB
      have BK347:=n0_
      have HB:=n1_
      clear n0_ n1_
      refine zbY (n:=7) (S:=fun w'=>w'.cell? ⟨gb347,0,none⟩=some (.bool a0_0)∧w'.cell? ⟨gb347,1,none⟩=some (.string a0_1)∧w'.cell? ⟨gb347,2,none⟩=some (.string a0_2)) (ds:=[]) #[false,false,false,false,false,false,false] (by kernel_rfl) rfl rfl ⟨(zad BK347.out 0).trans rfl,(zad BK347.out 1).trans rfl,(zad BK347.out 2).trans rfl⟩ (fun hHeld => ?_)
      generalize w30.drew=w31 at BK347 HB hHeld ⊢
      refine pure_ (i:=0) (N:=some 14) (v:=?_) (a':=?_) #[true,false,false,false,false,false,false] rfl rfl (by kernel_rfl) (fun _ _ _ h=>h) (Or.inl ⟨by rfl,?_⟩) ?_ ?_
      rotate_left
      ·intro w'
       go_simp
       with_reducible rfl
      rotate_left
      ·simp only [Act.put,List.setIfInBounds_toArray,List.set_cons_zero,List.set_cons_succ,i64_w,i32_w]
       rfl
      refine pure_ (i:=1) (N:=some 15) (v:=?_) (a':=?_) #[true,true,false,false,false,false,false] rfl rfl (by kernel_rfl) (fun _ _ _ h=>h) (Or.inl ⟨by rfl,?_⟩) ?_ ?_
      rotate_left
      ·intro w'
       go_simp
       with_reducible rfl
      rotate_left
      ·simp only [Act.put,List.setIfInBounds_toArray,List.set_cons_zero,List.set_cons_succ,i64_w,i32_w]
       rfl
      refine pure_ (i:=3) (N:=some 17) (v:=?_) (a':=?_) #[true,true,false,true,false,false,false] rfl rfl (by kernel_rfl) (fun _ _ _ h=>h) (Or.inl ⟨by rfl,?_⟩) ?_ ?_
      rotate_left
      ·intro w'
       go_simp
       with_reducible rfl
      rotate_left
      ·simp only [Act.put,List.setIfInBounds_toArray,List.set_cons_zero,List.set_cons_succ,i64_w,i32_w]
       rfl
      refine take_ (i:=4) (N:=some 18) (v:=?_) (a':=?_) #[true,true,false,true,true,false,false] rfl rfl (by kernel_rfl) (fun _ _ _ h=>h) (Or.inl ⟨by rfl,?_⟩) hHeld ?_ ?_
      rotate_left
      ·rintro w' ⟨s0,s1,s2⟩
       go_simp
       with_reducible rfl
      rotate_left
      ·simp only [Act.put,List.setIfInBounds_toArray,List.set_cons_zero,List.set_cons_succ,i64_w,i32_w]
       rfl
      refine one_ (i:=2) (N:=some 16) #[true,true,true,true,true,false,false] rfl rfl (by kernel_rfl) (by decide) (fun K hK => ?_)
      refine goes_ Tryz.func129 (by kernel_rfl) rfl #[.string t349,.string t349] (by rfl) rfl rfl (by (try simp only [List.map_toArray,List.map_cons,List.map_nil]); first|done|rfl|(simp only [List.length_drop,List.length_take]; rfl)) ?_
      with_reducible refine (c1_Plus.calls t349 t349 t350 _ A3.out).mono ?_
      rintro e w32 ⟨rfl,hb⟩
      refine ⟨_,rfl,?_⟩
      have n0_:=Aside0.mk (zao (g:=gb347) (o:=.cells #[.bool a0_0,.string a0_1,.string a0_2] 28 (0,0)) (by (with_reducible repeat (first|refine zaf ?_ _|refine zai ?_|refine zag ?_ _)); exact BK347.out) hb)
      have n1_:=Aside0.mk (zak (by repeat (first|(with_reducible first|exact HB.out|apply zab|apply zaa|apply zac|refine zae ?_ GE347.out)|exact HB.out)) hb)
      clear BK347
      clear HB
      have BK347:=n0_
      have HB:=n1_
      clear n0_ n1_
      (try clear hb)
      (try clear hb2)
      (try clear hk)
      (try clear hi)
      refine hK.out _ _ ⟨(zad BK347.out 0).trans rfl,(zad BK347.out 1).trans rfl,(zad BK347.out 2).trans rfl⟩ (fun hHeld => ?_)
      clear hK K
      refine norm_ (a':=?_) ?_ ?_
      rotate_left
      ·show Act.put _ (some 16) _=_
       simp only [Act.put,List.setIfInBounds_toArray,List.set_cons_zero,List.set_cons_succ,i64_w,i32_w]
       rfl
      refine one_ (i:=5) (N:=some 19) #[true,true,true,true,true,true,false] rfl rfl (by kernel_rfl) (by decide) (fun K hK => ?_)
      refine goes_ Tryz.func147 (by kernel_rfl) rfl #[.string t350,.string a0_2] (by rfl) rfl rfl (by (try simp only [List.map_toArray,List.map_cons,List.map_nil]); first|done|rfl|(simp only [List.length_drop,List.length_take]; rfl)) ?_
      with_reducible refine (c1_Compare.calls t350 a0_2 t351 _ A4.out).mono ?_
      rintro e w33 ⟨rfl,hb⟩
      refine ⟨_,rfl,?_⟩
      have n0_:=Aside0.mk (zao (g:=gb347) (o:=.cells #[.bool a0_0,.string a0_1,.string a0_2] 28 (0,0)) (by (with_reducible repeat (first|refine zaf ?_ _|refine zai ?_|refine zag ?_ _)); exact BK347.out) hb)
      have n1_:=Aside0.mk (zak (by repeat (first|(with_reducible first|exact HB.out|apply zab|apply zaa|apply zac|refine zae ?_ GE347.out)|exact HB.out)) hb)
      clear BK347
      clear HB
      have BK347:=n0_
      have HB:=n1_
      clear n0_ n1_
      (try clear hb)
      (try clear hb2)
      (try clear hk)
      (try clear hi)
      refine hK.out _ _ ⟨(zad BK347.out 0).trans rfl,(zad BK347.out 1).trans rfl,(zad BK347.out 2).trans rfl⟩ (fun hHeld => ?_)
      clear hK K
      refine norm_ (a':=?_) ?_ ?_
      rotate_left
      ·show Act.put _ (some 19) _=_
       simp only [Act.put,List.setIfInBounds_toArray,List.set_cons_zero,List.set_cons_succ,i64_w,i32_w]
       rfl
      refine pure_ (i:=6) (N:=some 5) (v:=?_) (a':=?_) #[true,true,true,true,true,true,true] rfl rfl (by kernel_rfl) (fun _ _ _ h=>h) (Or.inl ⟨by rfl,?_⟩) ?_ ?_
      rotate_left
      ·intro w'
       go_simp
       with_reducible rfl
      rotate_left
      ·simp only [Act.put,List.setIfInBounds_toArray,List.set_cons_zero,List.set_cons_succ,i64_w,i32_w]
       rfl
      refine done_ (by kernel_rfl) ?_
      have p18:0≤((ji15):Int):=of_decide_eq_true (by first|(with_reducible assumption)|assumption)
      have q18:(ji15)<(t348.size:Int):=of_decide_eq_true (by first|(with_reducible assumption)|assumption)
      have hx18:=bt_at t348 (ji15)
      replace p18:=eq_true p18
      replace q18:=eq_true q18
      try go_wp2
      go_ret
      exact ⟨by first|rfl|(simp [zan,zam]<;>rfl)|(simp only [←hji15]; first|rfl|(simp [zan,zam]<;>rfl))|(simp [*,zan,zam]<;>rfl),by repeat (first|(with_reducible first|exact HB.out|apply zab|apply zaa|apply zac|refine zae ?_ GE347.out)|exact HB.out)⟩
    ·rw [if_neg c17] at H
     exact absurd H (by simp)
   ·rw [if_neg c16] at H
    exact absurd H (by simp)
  ·rw [if_neg c14] at H
   have c14b0:(t351 == 0)=false:=beq_eq_false_iff_ne.mpr c14
   have c14b1:(t351 != 0)=true:=bne_iff_ne.mpr c14
   obtain rfl:=Option.some.inj H
   go_enter Tryz.func172,Tryz.ntmps172
   try go_wp2_with (first|((with_reducible refine zau (N:=1) rfl ?_); (try (refine zbm (by rfl) ?_; dsimp only)); refine zas ?hg (N:=1) ?hd (cs:=#[.bool a0_0,.string a0_1,.string a0_2]) (t:=28) ?hr ?_; (case hd=>rfl); (case hg=>rfl); (case hr=>first|(go_simp; done)|(go_simp; rfl)); intro gb347 hg w34 hbox hb; have n0_:=Aside0.mk (zak (by repeat (first|(with_reducible first|exact HB.out|apply zab|apply zaa|apply zac)|exact HB.out)) hb); have n1_:=Aside0.mk (hbox); have n2_:=Aside0.mk ((by rw [hg]; exact (zal (by repeat (first|(with_reducible first|exact HB.out|apply zab|apply zaa|apply zac)|exact HB.out))):w.heap.size≤gb347)); have n3_:=Aside0.mk ((by rw [hg]; exact (zal (by repeat (first|(with_reducible first|exact HB.out|apply zab|apply zaa|apply zac)|exact HB.out))):w.heap.size≤gb347)); clear HB; have HB:=n0_; have BK347:=n1_; have GW347:=n2_; have GE347:=n3_; clear n0_ n1_ n2_ n3_; clear hb hbox hg; have hcz35_0:w34.cell? ⟨gb347,0,none⟩=some (.bool a0_0):=(zad BK347.out 0).trans rfl; have hcz35_1:w34.cell? ⟨gb347,1,none⟩=some (.string a0_1):=(zad BK347.out 1).trans rfl; have hcz35_2:w34.cell? ⟨gb347,2,none⟩=some (.string a0_2):=(zad BK347.out 2).trans rfl; have hfz35_0:=zaj BK347.out 0; have hfz35_1:=zaj BK347.out 1; have hfz35_2:=zaj BK347.out 2)|((with_reducible refine zap (f:=128) rfl ?_); refine zaA (some 11) rfl rfl Tryz.func128 (by kernel_rfl) rfl #[.string a0_1,.string a0_2] rfl (by (try simp only [List.map_toArray,List.map_cons,List.map_nil]); first|done|rfl|(simp only [List.length_drop,List.length_take]; rfl)) ?_; (with_reducible refine (c1_Divide.calls a0_1 a0_2 t348 t349 _ A2.out).mono ?_); rintro e w36 ⟨rfl,hb⟩; refine ⟨_,rfl,?_⟩; have n0_:=Aside0.mk (zao (g:=gb347) (o:=.cells #[.bool a0_0,.string a0_1,.string a0_2] 28 (0,0)) (by (with_reducible repeat (first|refine zaf ?_ _|refine zai ?_|refine zag ?_ _)); exact BK347.out) hb); have n1_:=Aside0.mk (zak (by repeat (first|(with_reducible first|exact HB.out|apply zab|apply zaa|apply zac|refine zae ?_ GE347.out)|exact HB.out)) hb); clear BK347; clear HB; have BK347:=n0_; have HB:=n1_; clear n0_ n1_; (try clear hb); (try clear hb2); (try clear hk); (try clear hi)))
   have n0_:=Aside0.mk (zai BK347.out)
   have n1_:=Aside0.mk (zac HB.out)
   clear BK347
   clear HB
   have BK347:=n0_
   have HB:=n1_
   clear n0_ n1_
   refine zbY (n:=7) (S:=fun w'=>w'.cell? ⟨gb347,0,none⟩=some (.bool a0_0)∧w'.cell? ⟨gb347,1,none⟩=some (.string a0_1)∧w'.cell? ⟨gb347,2,none⟩=some (.string a0_2)) (ds:=[]) #[false,false,false,false,false,false,false] (by kernel_rfl) rfl rfl ⟨(zad BK347.out 0).trans rfl,(zad BK347.out 1).trans rfl,(zad BK347.out 2).trans rfl⟩ (fun hHeld => ?_)
   generalize w36.drew=w37 at BK347 HB hHeld ⊢
   refine pure_ (i:=0) (N:=some 14) (v:=?_) (a':=?_) #[true,false,false,false,false,false,false] rfl rfl (by kernel_rfl) (fun _ _ _ h=>h) (Or.inl ⟨by rfl,?_⟩) ?_ ?_
   rotate_left
   ·intro w'
    go_simp
    with_reducible rfl
   rotate_left
   ·simp only [Act.put,List.setIfInBounds_toArray,List.set_cons_zero,List.set_cons_succ,i64_w,i32_w]
    rfl
   refine pure_ (i:=1) (N:=some 15) (v:=?_) (a':=?_) #[true,true,false,false,false,false,false] rfl rfl (by kernel_rfl) (fun _ _ _ h=>h) (Or.inl ⟨by rfl,?_⟩) ?_ ?_
   rotate_left
   ·intro w'
    go_simp
    with_reducible rfl
   rotate_left
   ·simp only [Act.put,List.setIfInBounds_toArray,List.set_cons_zero,List.set_cons_succ,i64_w,i32_w]
    rfl
   refine pure_ (i:=3) (N:=some 17) (v:=?_) (a':=?_) #[true,true,false,true,false,false,false] rfl rfl (by kernel_rfl) (fun _ _ _ h=>h) (Or.inl ⟨by rfl,?_⟩) ?_ ?_
   rotate_left
   ·intro w'
    go_simp
    with_reducible rfl
   rotate_left
   ·simp only [Act.put,List.setIfInBounds_toArray,List.set_cons_zero,List.set_cons_succ,i64_w,i32_w]
    rfl
   refine take_ (i:=4) (N:=some 18) (v:=?_) (a':=?_) #[true,true,false,true,true,false,false] rfl rfl (by kernel_rfl) (fun _ _ _ h=>h) (Or.inl ⟨by rfl,?_⟩) hHeld ?_ ?_
   rotate_left
   ·rintro w' ⟨s0,s1,s2⟩
    go_simp
    with_reducible rfl
   rotate_left
   ·simp only [Act.put,List.setIfInBounds_toArray,List.set_cons_zero,List.set_cons_succ,i64_w,i32_w]
    rfl
   refine one_ (i:=2) (N:=some 16) #[true,true,true,true,true,false,false] rfl rfl (by kernel_rfl) (by decide) (fun K hK => ?_)
   refine goes_ Tryz.func129 (by kernel_rfl) rfl #[.string t349,.string t349] (by rfl) rfl rfl (by (try simp only [List.map_toArray,List.map_cons,List.map_nil]); first|done|rfl|(simp only [List.length_drop,List.length_take]; rfl)) ?_
   with_reducible refine (c1_Plus.calls t349 t349 t350 _ A3.out).mono ?_
   rintro e w38 ⟨rfl,hb⟩
   refine ⟨_,rfl,?_⟩
   have n0_:=Aside0.mk (zao (g:=gb347) (o:=.cells #[.bool a0_0,.string a0_1,.string a0_2] 28 (0,0)) (by (with_reducible repeat (first|refine zaf ?_ _|refine zai ?_|refine zag ?_ _)); exact BK347.out) hb)
   have n1_:=Aside0.mk (zak (by repeat (first|(with_reducible first|exact HB.out|apply zab|apply zaa|apply zac|refine zae ?_ GE347.out)|exact HB.out)) hb)
   clear BK347
   clear HB
   have BK347:=n0_
   have HB:=n1_
   clear n0_ n1_
   (try clear hb)
   (try clear hb2)
   (try clear hk)
   (try clear hi)
   refine hK.out _ _ ⟨(zad BK347.out 0).trans rfl,(zad BK347.out 1).trans rfl,(zad BK347.out 2).trans rfl⟩ (fun hHeld => ?_)
   clear hK K
   refine norm_ (a':=?_) ?_ ?_
   rotate_left
   ·show Act.put _ (some 16) _=_
    simp only [Act.put,List.setIfInBounds_toArray,List.set_cons_zero,List.set_cons_succ,i64_w,i32_w]
    rfl
   refine one_ (i:=5) (N:=some 19) #[true,true,true,true,true,true,false] rfl rfl (by kernel_rfl) (by decide) (fun K hK => ?_)
   refine goes_ Tryz.func147 (by kernel_rfl) rfl #[.string t350,.string a0_2] (by rfl) rfl rfl (by (try simp only [List.map_toArray,List.map_cons,List.map_nil]); first|done|rfl|(simp only [List.length_drop,List.length_take]; rfl)) ?_
   with_reducible refine (c1_Compare.calls t350 a0_2 t351 _ A4.out).mono ?_
   rintro e w39 ⟨rfl,hb⟩
   refine ⟨_,rfl,?_⟩
   have n0_:=Aside0.mk (zao (g:=gb347) (o:=.cells #[.bool a0_0,.string a0_1,.string a0_2] 28 (0,0)) (by (with_reducible repeat (first|refine zaf ?_ _|refine zai ?_|refine zag ?_ _)); exact BK347.out) hb)
   have n1_:=Aside0.mk (zak (by repeat (first|(with_reducible first|exact HB.out|apply zab|apply zaa|apply zac|refine zae ?_ GE347.out)|exact HB.out)) hb)
   clear BK347
   clear HB
   have BK347:=n0_
   have HB:=n1_
   clear n0_ n1_
   (try clear hb)
   (try clear hb2)
   (try clear hk)
   (try clear hi)
   refine hK.out _ _ ⟨(zad BK347.out 0).trans rfl,(zad BK347.out 1).trans rfl,(zad BK347.out 2).trans rfl⟩ (fun hHeld => ?_)
   clear hK K
   refine norm_ (a':=?_) ?_ ?_
   rotate_left
   ·show Act.put _ (some 19) _=_
    simp only [Act.put,List.setIfInBounds_toArray,List.set_cons_zero,List.set_cons_succ,i64_w,i32_w]
    rfl
   refine pure_ (i:=6) (N:=some 5) (v:=?_) (a':=?_) #[true,true,true,true,true,true,true] rfl rfl (by kernel_rfl) (fun _ _ _ h=>h) (Or.inl ⟨by rfl,?_⟩) ?_ ?_
   rotate_left
   ·intro w'
    go_simp
    with_reducible rfl
   rotate_left
   ·simp only [Act.put,List.setIfInBounds_toArray,List.set_cons_zero,List.set_cons_succ,i64_w,i32_w]
    rfl
   refine done_ (by kernel_rfl) ?_
   try go_wp2
   go_ret
   exact ⟨by first|rfl|(simp [zan,zam]<;>rfl)|(simp [*,zan,zam]<;>rfl),by repeat (first|(with_reducible first|exact HB.out|apply zab|apply zaa|apply zac|refine zae ?_ GE347.out)|exact HB.out)⟩
end Go.Proofs.ZQ
end
