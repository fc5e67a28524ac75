/- Texts under the proof, joined by a program (prune.py): QRatDigits, P105, HZeros, QRef4, QFrac, Q0, Q183, Q184. -/
import Derived.Test.YtglaeambknhjlaaGreatDoorCRatSums09
import Derived.Test.YtglaeambknhjlaaGreatDoorCRatSums12
import Derived.Test.YtglaeambknhjlaaGreatDoorCRatSums02
import Derived.Test.YtglaeambknhjlaaGreatDoorCRatSums11
import Derived.Test.YtglaeambknhjlaaGreatDoorProg
import Derived.Below
import Derived.Deep.Draws
import Derived.Deep.AppendLies
import Derived.Maps.AppendAt
import Derived.OwnWalk
import Derived.Laws.BytesArg
import Derived.Laws.MakeOwn
import Derived.Laws.OwnMore
import Derived.Deep.OwnRows
import Derived.Tactics
import Derived.Lib.ConvBytes
import Derived.Laws.Slices
import Derived.WalkKit
import Derived.KernelRfl
import Derived.RowKit3
import Derived.Deep.LoopGhost
import Derived.Deep.QuietTactic
import Derived.BigQuiet
import Derived.WideLaws
import Derived.Deep.DeepCutAuto
import Derived.Deep.CutBlock
import Derived.Deep.RegionHeld3
import Derived.Laws.Rows
import Derived.Lib.AppendStr
import Derived.ArgAppend
import Derived.Laws.IdiomCopy
import Derived.OrdersHeld
import Derived.Laws.BitsLemmas
import Derived.RowKit
import Derived.Test.YtglaeambknhjlaaGreatDoorCRatSums00
import Derived.Test.YtglaeambknhjlaaGreatDoorCRatSums01
set_option linter.unusedVariables false
set_option linter.unusedSimpArgs false
set_option exponentiation.threshold 20001
set_option maxHeartbeats 8000000
set_option maxRecDepth 100000
section
namespace Go.Proofs.ZQ
open Go.RowKit Go.Proofs.ZW.Wa Go.Proofs.ZP
def zer (k:Nat):ByteArray:=⟨(List.replicate k (48:UInt8)).toArray⟩
def padT (t:ByteArray) (p:Nat):ByteArray:=if t.size<p+1 then zer (p+1-t.size)++t else t
def ptT (t:ByteArray) (p:Nat):ByteArray:=if 0<p then t.extract 0 (t.size-p)++⟨#[46]⟩++t.extract (t.size-p) t.size else t
def dgt (m:Int) (p:Nat):ByteArray:=if m<0 then ⟨#[45]⟩++ptT (padT (T m.natAbs) p) p else ptT (padT (T m.natAbs) p) p
noncomputable def digR (x:Rat) (p:Int):ByteArray×Int:=if p<0∨600<p then (⟨#[]⟩,1) else if 600<(T (evenR (x*tenR p)).natAbs).size then (⟨#[]⟩,7) else (dgt (evenR (x*tenR p)) p.toNat,0)
noncomputable def rat_Digits.f (a0_0 a0_1:ByteArray) (a1:Int):Option (ByteArray×Int):=by classical exact if h:∃ x,RR a0_0 a0_1 x then some (digR h.choose a1) else some (⟨#[]⟩,3)
theorem zer_size (k:Nat):(zer k).size=k:=by show (List.replicate k (48:UInt8)).toArray.size=k; simp
theorem repeatL_48 (k:Nat):Lib.repeatL [48] k=List.replicate k (48:UInt8):=by
 induction k with
 | zero=>rfl
 | succ k ih=>rw [Lib.repeatL,ih]; rfl
theorem repeat_zer (k:Nat) (w:World) (h:k≤140737488355328) :
  Calls Tryz.prog 99 #[.string ⟨#[48]⟩,.int .i64 k] w fun e w'=>e = .returned (.string (zer k))∧Below w.heap.size w w':=by
 have h1:=Tryz.strings_Repeat ⟨#[48]⟩ k w (by omega) (by show 1*k≤_; omega)
 have e:Lib.repeatL (⟨#[48]⟩:ByteArray).data.toList k=List.replicate k (48:UInt8):=repeatL_48 k
 rw [e] at h1
 exact h1
theorem bd_even {x:Rat} {n:Nat} (h:Bdr n x):Bd (n+1) (evenR x):=by
 unfold evenR
 have h1:=bd_floor h
 split
 ·refine h1.add ?_
  unfold Bd at *
  have:=h.2
  unfold Bd at this
  have h3:=x.den_pos
  have h4:(1:Int).natAbs=1:=rfl
  rw [Int.natAbs_natCast] at this
  omega
 ·exact h1.mono (by omega)
theorem RR.uniq {a b:ByteArray} {x y:Rat} (h:RR a b x) (k:RR a b y):x=y:=by
 refine Rat.ext (wtext_inj (h.num.symm.trans k.num)) (T_inj (h.den.symm.trans k.den))
theorem digits_no (a b:ByteArray) (p:Int) (w:World) (h:¬ ∃ x,RR a b x) :
  Calls Tryz.prog 31 #[.agg #[.string a,.string b],.int .i64 p] w fun e w'=>e = .returned (.tuple #[.string ⟨#[]⟩,.int .i64 3])∧Below w.heap.size w w':=by
 have hba:=zaa (Below.refl w.heap.size w) (.cells #[.string a,.string b] 23)
 have c0:(w.alloc (.cells #[.string a,.string b] 23)).cell? ⟨w.heap.size,0,none⟩=some (.string a):=(zaf (zaC w (.cells #[.string a,.string b] 23)) 0).trans rfl
 have c1:(w.alloc (.cells #[.string a,.string b] 23)).cell? ⟨w.heap.size,1,none⟩=some (.string b):=(zaf (zaC w (.cells #[.string a,.string b] 23)) 1).trans rfl
 have HR:=fun W=>read_no a b W h
 clear h
 go_enter Tryz.func31,Tryz.ntmps31
 go_wp2_with fail
 refine (HR _).mono ?_
 rintro e w1 ⟨rfl,hb1⟩
 go_wp2
 go_ret2
 exact ⟨rfl,bthen hba hb1⟩
theorem digits_arg (a b:ByteArray) (x:Rat) (p:Int) (w:World) (h:RR a b x) (hp:p<0∨600<p) :
  Calls Tryz.prog 31 #[.agg #[.string a,.string b],.int .i64 p] w fun e w'=>e = .returned (.tuple #[.string ⟨#[]⟩,.int .i64 1])∧Below w.heap.size w w':=by
 have hba:=zaa (Below.refl w.heap.size w) (.cells #[.string a,.string b] 23)
 have c0:(w.alloc (.cells #[.string a,.string b] 23)).cell? ⟨w.heap.size,0,none⟩=some (.string a):=(zaf (zaC w (.cells #[.string a,.string b] 23)) 0).trans rfl
 have c1:(w.alloc (.cells #[.string a,.string b] 23)).cell? ⟨w.heap.size,1,none⟩=some (.string b):=(zaf (zaC w (.cells #[.string a,.string b] 23)) 1).trans rfl
 have HR:=fun W=>read_yes x W h.ln h.ld
 rw [←h.num,←h.den] at HR
 clear h
 by_cases h0:p<0
 ·clear hp
  go_enter Tryz.func31,Tryz.ntmps31
  go_wp2_with fail
  refine (HR _).mono ?_
  rintro e w1 ⟨g,rfl,hg,hx1,hb1⟩
  clear hx1
  go_wp2
  go_ret2
  exact ⟨rfl,bthen hba hb1⟩
 ·have h1:600<p:=by omega
  clear hp
  go_enter Tryz.func31,Tryz.ntmps31
  go_wp2_with fail
  refine (HR _).mono ?_
  rintro e w1 ⟨g,rfl,hg,hx1,hb1⟩
  clear hx1
  go_wp2
  go_ret2
  exact ⟨rfl,bthen hba hb1⟩
theorem digits_walk (a b:ByteArray) (x:Rat) (p:Nat) (w:World) (h:RR a b x) (hp:p≤600) :
  Calls Tryz.prog 31 #[.agg #[.string a,.string b],.int .i64 p] w fun e w'=>e = .returned (.tuple #[.string (digR x p).1,.int .i64 (digR x p).2])∧Below w.heap.size w w':=by
 have hba:=zaa (Below.refl w.heap.size w) (.cells #[.string a,.string b] 23)
 have c0:(w.alloc (.cells #[.string a,.string b] 23)).cell? ⟨w.heap.size,0,none⟩=some (.string a):=(zaf (zaC w (.cells #[.string a,.string b] 23)) 0).trans rfl
 have c1:(w.alloc (.cells #[.string a,.string b] 23)).cell? ⟨w.heap.size,1,none⟩=some (.string b):=(zaf (zaC w (.cells #[.string a,.string b] 23)) 1).trans rfl
 have HR:=fun W=>read_yes x W h.ln h.ld
 rw [←h.num,←h.den] at HR
 have HD:=Lib.hid (show digR x p=if 600<(T (evenR (x*tenR p)).natAbs).size then (⟨#[]⟩,7) else (dgt (evenR (x*tenR p)) p,0) by unfold digR; rw [if_neg (by omega),Int.toNat_natCast])
 have HB:=Lib.hid h.bd
 have HBE:=Lib.hid (bd_even (h.bd.mul (Bdr.tenR p)))
 have hu105:=Tryz.underlying105
 clear h
 go_enter Tryz.func31,Tryz.ntmps31
 go_wp2_with fail
 refine (HR _).mono ?_
 rintro e w1 ⟨g,rfl,hg,hx1,hb1⟩
 have hB1:=bthen hba hb1
 clear hba hb1 c0 c1 HR
 go_wp2_with fail
 refine (steps_calls g x p _ hx1 HB.out (by decide) (by omega) (by omega) (by omega)).mono ?_
 rintro e w2 ⟨D,rfl,hD,hm2,hb2⟩
 have hB2:=bthen hB1 hb2
 clear hx1 hB1 hb2 hD hg
 generalize evenR (x*tenR p)=m at *
 have hnew:=IntAt.new w2 105 (by decide)
 have hba:=zaa (Below.refl w2.heap.size w2) (.cells #[.bool false,.slice none 0 0] 105)
 have hlD:=hm2.lt
 have hpn:(p:Int).natAbs≤600:=by omega
 go_wp2_with fail
 refine (zcE w2.heap.size 0 D 0 m _ hnew.slot (hm2.below hba) HBE.out (by unfold big; omega)).mono ?_
 rintro e w3 ⟨rfl,ha3,hu3⟩
 have hm3:=(hm2.below hba).upd hu3 (Or.inl (by omega))
 have hb3:=hu3.new hba (Nat.le_refl _)
 have hB3:=bthen hB2 hb3
 clear hnew hba hm2 hu3 hb3 hB2 hlD
 go_wp2_with fail
 refine (zcx w2.heap.size 0 (m.natAbs:Int) _ ha3 HBE.out.abs (by unfold big; omega)).mono ?_
 rintro e w4 ⟨rfl,hb4⟩
 have hm4:=hm3.below hb4
 have hB4:=bthen hB3 hb4
 rw [zaU (show (0:Int)≤(m.natAbs:Int) by omega),Int.natAbs_natCast]
 have htp:=zbb m.natAbs
 have HDG:=Lib.hid (show dgt m p=if m<0 then ⟨#[45]⟩++ptT (padT (T m.natAbs) p) p else ptT (padT (T m.natAbs) p) p from rfl)
 clear ha3 hm3 hB3 hb4
 generalize T m.natAbs=t at *
 by_cases hL:600<t.size
 ·have hLI:(600:Int)<(t.size:Int):=by omega
  have HV:=Lib.hid (show digR x p=(⟨#[]⟩,7) by rw [HD.out,if_pos hL])
  clear HD hL hm4 HDG
  go_wp2
  go_ret2
  exact ⟨by rw [HV.out]; rfl,hB4⟩
 ·have hLI:¬ (600:Int)<(t.size:Int):=by omega
  have HV:=Lib.hid (show digR x p=(dgt m p,0) by rw [HD.out,if_neg hL])
  clear HD
  by_cases hP:t.size<p+1
  ·have hPI:(0:Int)<(p:Int)+1-(t.size:Int):=by omega
   go_wp2_with fail
   rw [show (p:Int)+1-(t.size:Int)=((p+1-t.size:Nat):Int) by omega]
   refine (repeat_zer (p+1-t.size) _ (by omega)).mono ?_
   rintro e w5 ⟨rfl,hb5⟩
   have hm5:=hm4.below hb5
   have hB5:=bthen hB4 hb5
   have hU:padT t p=zer (p+1-t.size)++t:=by unfold padT; rw [if_pos hP]
   rw [hU] at HDG
   have hzs:=zer_size (p+1-t.size)
   have hcs:(zer (p+1-t.size)++t).size=p+1:=by rw [ByteArray.size_append,hzs]; omega
   have HCS:=Lib.hid (show p+1≤(zer (p+1-t.size)++t).size∧(zer (p+1-t.size)++t).size≤2000 by omega)
   have hc1:(zer (p+1-t.size)).size+t.size≤9223372036854775807:=by omega
   clear hU hzs hm4 hB4 hb5 hcs
   generalize zer (p+1-t.size)=z at *
   have hp0:0<p:=by omega
   have hp0I:(0:Int)<(p:Int):=by omega
   go_wp2_with fail
   generalize z++t=u at *
   have hus:=HCS.out
   have hw:IntKind.i64.wrap ((u.size:Int)-(p:Int))=((u.size-p:Nat):Int):=by rw [IntKind.wrap_i64]; omega
   have hu2:((u.size-p:Nat):Int)≤(u.size:Int):=by omega
   have hu3:u.size-p≤u.size:=by omega
   have hx1:(u.extract 0 (u.size-p)).size+1≤9223372036854775807:=by rw [ByteArray.size_extract]; omega
   have hx2:(u.extract 0 (u.size-p)++⟨#[46]⟩).size+(u.extract (u.size-p) u.size).size≤9223372036854775807:=by
    rw [ByteArray.size_append,ByteArray.size_extract,ByteArray.size_extract]
    have:(⟨#[46]⟩:ByteArray).size=1:=rfl
    omega
   have hy1:min (u.size-p) u.size+1≤9223372036854775807:=by omega
   have hy2:u.size-p+1≤9223372036854775807:=by omega
   have HYS:=Lib.hid (show (u.extract 0 (u.size-p)++⟨#[46]⟩++u.extract (u.size-p) u.size).size≤10000 by
    rw [ByteArray.size_append,ByteArray.size_append,ByteArray.size_extract,ByteArray.size_extract]
    have:(⟨#[46]⟩:ByteArray).size=1:=rfl
    omega)
   have hPT:ptT u p=u.extract 0 (u.size-p)++⟨#[46]⟩++u.extract (u.size-p) u.size:=by unfold ptT; rw [if_pos hp0]
   rw [hPT] at HDG
   clear hus hPT
   go_quiet (fail)
   generalize hqd:w5.drewN _=w6
   have hb6:Below w5.heap.size w5 w6:=by subst hqd; exact zao _ _
   have hm6:=hm5.below hb6
   have hB6:=bthen hB5 hb6
   clear hqd hw hu2 hu3 hx1 hx2 hy1 hy2
   generalize (u.extract 0 (u.size-p)++⟨#[46]⟩++u.extract (u.size-p) u.size)=y at *
   go_wp2_with fail
   refine (zaK D 0 m _ hm6).mono ?_
   rintro e w7 ⟨rfl,rfl⟩
   have hys:1+y.size≤9223372036854775807:=by have:=HYS.out; omega
   by_cases hm0:m<0
   ·have hsg:m.sign = -1:=Int.sign_eq_neg_one_of_neg hm0
    have HF:=Lib.hid (show digR x p=(⟨#[45]⟩++y,0) by rw [HV.out,HDG.out,if_pos hm0])
    rw [hsg]
    clear hsg hm0
    go_wp2
    go_ret2
    exact ⟨by rw [HF.out]; rfl,hB6⟩
   ·have hsg:¬ m.sign<0:=fun h=>hm0 (Int.neg_of_sign_eq_neg_one (by rcases Int.sign_trichotomy m with e|e|e<;>omega))
    have HF:=Lib.hid (show digR x p=(y,0) by rw [HV.out,HDG.out,if_neg hm0])
    go_wp2
    go_ret2
    exact ⟨by rw [HF.out]; rfl,hB6⟩
  ·have hPI:¬ (0:Int)<(p:Int)+1-(t.size:Int):=by omega
   have hU:padT t p=t:=by unfold padT; rw [if_neg hP]
   rw [hU] at HDG
   by_cases hp0:0<p
   ·have hp0I:(0:Int)<(p:Int):=by omega
    have HCS:=Lib.hid (show p+1≤t.size∧t.size≤2000 by omega)
    clear hU
    go_wp2_with fail
    generalize t=u at *
    have hus:=HCS.out
    have hw:IntKind.i64.wrap ((u.size:Int)-(p:Int))=((u.size-p:Nat):Int):=by rw [IntKind.wrap_i64]; omega
    have hu2:((u.size-p:Nat):Int)≤(u.size:Int):=by omega
    have hu3:u.size-p≤u.size:=by omega
    have hx1:(u.extract 0 (u.size-p)).size+1≤9223372036854775807:=by rw [ByteArray.size_extract]; omega
    have hx2:(u.extract 0 (u.size-p)++⟨#[46]⟩).size+(u.extract (u.size-p) u.size).size≤9223372036854775807:=by
     rw [ByteArray.size_append,ByteArray.size_extract,ByteArray.size_extract]
     have:(⟨#[46]⟩:ByteArray).size=1:=rfl
     omega
    have hy1:min (u.size-p) u.size+1≤9223372036854775807:=by omega
    have hy2:u.size-p+1≤9223372036854775807:=by omega
    have HYS:=Lib.hid (show (u.extract 0 (u.size-p)++⟨#[46]⟩++u.extract (u.size-p) u.size).size≤10000 by
     rw [ByteArray.size_append,ByteArray.size_append,ByteArray.size_extract,ByteArray.size_extract]
     have:(⟨#[46]⟩:ByteArray).size=1:=rfl
     omega)
    have hPT:ptT u p=u.extract 0 (u.size-p)++⟨#[46]⟩++u.extract (u.size-p) u.size:=by unfold ptT; rw [if_pos hp0]
    rw [hPT] at HDG
    clear hus hPT
    go_quiet (fail)
    generalize hqd:w4.drewN _=w6
    have hb6:Below w4.heap.size w4 w6:=by subst hqd; exact zao _ _
    have hm6:=hm4.below hb6
    have hB6:=bthen hB4 hb6
    clear hqd hw hu2 hu3 hx1 hx2 hy1 hy2
    generalize (u.extract 0 (u.size-p)++⟨#[46]⟩++u.extract (u.size-p) u.size)=y at *
    go_wp2_with fail
    refine (zaK D 0 m _ hm6).mono ?_
    rintro e w7 ⟨rfl,rfl⟩
    have hys:1+y.size≤9223372036854775807:=by have:=HYS.out; omega
    by_cases hm0:m<0
    ·have hsg:m.sign = -1:=Int.sign_eq_neg_one_of_neg hm0
     have HF:=Lib.hid (show digR x p=(⟨#[45]⟩++y,0) by rw [HV.out,HDG.out,if_pos hm0])
     rw [hsg]
     clear hsg hm0
     go_wp2
     go_ret2
     exact ⟨by rw [HF.out]; rfl,hB6⟩
    ·have hsg:¬ m.sign<0:=fun h=>hm0 (Int.neg_of_sign_eq_neg_one (by rcases Int.sign_trichotomy m with e|e|e<;>omega))
     have HF:=Lib.hid (show digR x p=(y,0) by rw [HV.out,HDG.out,if_neg hm0])
     go_wp2
     go_ret2
     exact ⟨by rw [HF.out]; rfl,hB6⟩
   ·have hp0I:¬ (0:Int)<(p:Int):=by omega
    have hPT:ptT t p=t:=by unfold ptT; rw [if_neg hp0]
    rw [hPT] at HDG
    have HYS:=Lib.hid (show t.size≤10000 by omega)
    clear hU hPT
    generalize t=y at *
    go_wp2_with fail
    refine (zaK D 0 m _ hm4).mono ?_
    rintro e w7 ⟨rfl,rfl⟩
    have hys:1+y.size≤9223372036854775807:=by have:=HYS.out; omega
    by_cases hm0:m<0
    ·have hsg:m.sign = -1:=Int.sign_eq_neg_one_of_neg hm0
     have HF:=Lib.hid (show digR x p=(⟨#[45]⟩++y,0) by rw [HV.out,HDG.out,if_pos hm0])
     rw [hsg]
     clear hsg hm0
     go_wp2
     go_ret2
     exact ⟨by rw [HF.out]; rfl,hB4⟩
    ·have hsg:¬ m.sign<0:=fun h=>hm0 (Int.neg_of_sign_eq_neg_one (by rcases Int.sign_trichotomy m with e|e|e<;>omega))
     have HF:=Lib.hid (show digR x p=(y,0) by rw [HV.out,HDG.out,if_neg hm0])
     go_wp2
     go_ret2
     exact ⟨by rw [HF.out]; rfl,hB4⟩
theorem rat_Digits.calls (a0_0 a0_1:ByteArray) (a1:Int) (r1:ByteArray) (r2:Int) (w:World) (h:rat_Digits.f a0_0 a0_1 a1=some (r1,r2)) :
  Calls Tryz.prog 31 #[.agg #[.string a0_0,.string a0_1],.int .i64 a1] w fun e w'=>e = .returned (.tuple #[.string r1,.int .i64 r2])∧Below w.heap.size w w':=by
 unfold rat_Digits.f at h
 by_cases hx:∃ x,RR a0_0 a0_1 x
 ·rw [dif_pos hx] at h
  have h:=Option.some.inj h
  have hc:=hx.choose_spec
  generalize hx.choose=x at h hc
  by_cases hp:a1<0∨600<a1
  ·unfold digR at h
   rw [if_pos hp] at h
   injection h with h1 h2
   subst h1; subst h2
   exact digits_arg _ _ x a1 w hc hp
  ·obtain ⟨p,rfl⟩:=Int.eq_ofNat_of_zero_le (show 0≤a1 by omega)
   have:=digits_walk a0_0 a0_1 x p w hc (by omega)
   rw [h] at this
   exact this
 ·rw [dif_neg hx] at h
  have h:=Option.some.inj h
  injection h with h1 h2
  subst h1; subst h2
  exact digits_no _ _ a1 w hx
end Go.Proofs.ZQ
end
section
namespace Go.Proofs.ZP
open Go.RowKit Go.Proofs.ZW.Wa Go.Proofs.ZW.Wb Go.Proofs.ZW.Wc
attribute [local go_sem] zaI zaG zaS zaR zaB zaA zaH zaF
def c1_Common.l0:Nat→ByteArray→ByteArray→Option (ByteArray)
 | 0,_,_=>none
 | k+1,x0,x1=>if x1.toList=([48]:List UInt8) then (some x0) else ((c1_Divide.f x0 x1).bind fun bt301=>(c1_Common.l0 k x1 bt301.2))
def c1_Common.f (k:Nat) (a0:ByteArray) (a1:ByteArray):Option (ByteArray):=c1_Common.l0 k a0 a1
theorem c1_Common.calls (k:Nat) (a0:ByteArray) (a1:ByteArray) (r:ByteArray) (w:World) (h:c1_Common.f k a0 a1=some r) :
  Calls Tryz.prog 95 #[.string a0,.string a1] w fun e w'=>e = .returned (.string r)∧Below w.heap.size w w':=by
 have HB:=Aside0.mk (Below.refl w.heap.size w)
 have H:(c1_Common.l0 k a0 a1)=some r:=h
 clear h
 have H':=Aside0.mk H
 clear H
 go_enter Tryz.func95,Tryz.ntmps95
 go_wp2
 go_loopg [0,1] k (fun kq v0 v1 w'=>∃ (x0_1:ByteArray) (x1_1:ByteArray),v0 = .string x0_1∧v1 = .string x1_1∧Aside0 (c1_Common.l0 kq x0_1 x1_1=some r)∧Aside0 (kq≤k)∧Aside0 (Below w.heap.size w w'))
 case atStart=>exact ⟨(a0),(a1),(by first|rfl|(simp; done)|(simp [*]; done)),(by first|rfl|(simp; done)|(simp [*]; done)),H',⟨Nat.le_refl _⟩,⟨by repeat (first|(with_reducible first|exact HB.out|apply zaa|apply zab|apply zac)|exact HB.out)⟩⟩
 case round =>
  clear H'
  try clear p2
  obtain ⟨x0_1,x1_1,rfl,rfl,HA,HK1,HB⟩:=hrel
  cases gk with
  | zero=>exact absurd HA.out (by simp [c1_Common.l0])
  | succ k1 =>
   have H:=HA.out
   clear HA
   simp only [c1_Common.l0] at H
   by_cases c3:x1_1.toList=([48]:List UInt8)
   ·rw [if_pos c3] at H
    have c3b0:(x1_1.toList == ([48]:List UInt8))=true:=beq_iff_eq.mpr c3
    have c3b1:(x1_1.toList != ([48]:List UInt8))=false:=bne_eq_false_iff_eq.mpr c3
    clear c3
    obtain rfl:=Option.some.inj H
    go_wp2
    go_ret
    exact ⟨by first|rfl|(simp [zal,zak]<;>rfl)|(simp [*,zal,zak]<;>rfl),by repeat (first|(with_reducible first|exact HB.out|apply zaa|apply zab|apply zac)|exact HB.out)⟩
   ·rw [if_neg c3] at H
    have c3b0:(x1_1.toList == ([48]:List UInt8))=false:=beq_eq_false_iff_ne.mpr c3
    have c3b1:(x1_1.toList != ([48]:List UInt8))=true:=bne_iff_ne.mpr c3
    replace H:=Option.bind_eq_some_iff.mp H
    obtain ⟨⟨t301,t302⟩,A40,H⟩:=H
    replace H:(c1_Common.l0 k1 x1_1 t302)=some r:=H
    have A4:=Aside0.mk A40
    clear A40
    have H':=Aside0.mk H
    clear H
    go_wp2_with (first|((with_reducible refine zas (f:=128) rfl ?_); refine zaZ (some 12) rfl rfl Tryz.func128 (by kernel_rfl) rfl #[.string x0_1,.string x1_1] rfl (by (try simp only [List.map_toArray,List.map_cons,List.map_nil]); first|done|rfl|(simp only [List.length_drop,List.length_take]; rfl)) ?_; (with_reducible refine (c1_Divide.calls x0_1 x1_1 t301 t302 _ A4.out).mono ?_); rintro e w5 ⟨rfl,hb⟩; refine ⟨_,rfl,?_⟩; have n0_:=Aside0.mk (zam (by repeat (first|(with_reducible first|exact HB.out|apply zaa|apply zab|apply zac)|exact HB.out)) hb); clear HB; have HB:=n0_; clear n0_; (try clear hb); (try clear hb2); (try clear hk); (try clear hi)))
    go_roundg k1
    case measure=>have:=HK1.out; omega
    case rel=>exact ⟨(x1_1),(t302),(by first|rfl|(simp; done)|(simp [*]; done)),(by first|rfl|(simp; done)|(simp [*]; done)),H',⟨by have:=HK1.out; omega⟩,⟨by repeat (first|(with_reducible first|exact HB.out|apply zaa|apply zab|apply zac)|exact HB.out)⟩⟩
end Go.Proofs.ZP
end
section
namespace Go.Proofs.ZP
open Go.RowKit Go.Proofs.ZW.Wa
def zer (k:Nat):ByteArray:=⟨(List.replicate k (48:UInt8)).toArray⟩
def c2_Zeros.f (a0:Int):Option ByteArray:=if 0≤a0∧a0≤1099511627776 then some (zer a0.toNat) else none
end Go.Proofs.ZP
end
section
namespace Go.Proofs.ZQ
open Go.RowKit Go.Proofs.ZW.Wa Go.Proofs.ZP
def c1_Minus.f (a0 a1:ByteArray):Option ByteArray:=ZP.c1_Minus.f a0 a1
theorem c1_Minus.calls (a0 a1:ByteArray) (r:ByteArray) (w:World) (h:c1_Minus.f a0 a1=some r) :
  Calls Tryz.prog 130 #[.string a0,.string a1] w fun e w'=>e = .returned (.string r)∧Below w.heap.size w w':=ZP.c1_Minus.calls a0 a1 r w h
theorem Minus_T {a b:Nat} (ha:(T a).size≤137438953472) (hb:(T b).size≤137438953472) (h:b≤a):c1_Minus.f (T a) (T b)=some (T (a-b)):=by
 unfold c1_Minus.f ZP.c1_Minus.f
 rw [numP_T ha,numP_T hb]
 show (if b≤a then some (T (a-b)) else none)=_
 rw [if_pos h]
def c1_Divide.f (a0 a1:ByteArray):Option (ByteArray×ByteArray):=ZP.c1_Divide.f a0 a1
theorem c1_Divide.calls (a0 a1:ByteArray) (r1 r2:ByteArray) (w:World) (h:c1_Divide.f a0 a1=some (r1,r2)) :
  Calls Tryz.prog 128 #[.string a0,.string a1] w fun e w'=>e = .returned (.tuple #[.string r1,.string r2])∧Below w.heap.size w w':=ZP.c1_Divide.calls a0 a1 r1 r2 w h
theorem Divide_T {a b:Nat} (ha:(T a).size≤137438953472) (hb:(T b).size≤137438953472) (h:0<b):c1_Divide.f (T a) (T b)=some (T (a/b),T (a%b)):=by
 unfold c1_Divide.f ZP.c1_Divide.f
 rw [numP_T ha,numP_T hb]
 show (if b=0 then none else some (T (a/b),T (a%b)))=_
 rw [if_neg (by omega)]
theorem T_zero:T 0=⟨#[48]⟩:=by unfold T; rw [zbM (by decide)]; rfl
theorem T_one:T 1=⟨#[49]⟩:=by unfold T; rw [zbM (by decide)]; rfl
theorem T_is0 {n:Nat}:(T n).toList=([48]:List UInt8)↔n=0:=by
 rw [ba_toList]
 constructor
 ·intro h
  refine T_inj ?_
  rw [T_zero]
  exact (zay h)
 ·rintro rfl
  rw [T_zero]
theorem common_ev:∀ (b a:Nat),(T a).size≤137438953472→(T b).size≤137438953472→Ev (fun k=>ZP.c1_Common.l0 k (T a) (T b)) (T (Nat.gcd a b)):=by
 intro b
 induction b using Nat.strongRecOn with
 | ind b ih =>
  intro a ha hb
  rcases Nat.eq_zero_or_pos b with h0|h0
  ·subst h0
   rw [Nat.gcd_zero_right]
   refine Ev.step (f:=fun _=>some (T a)) (fun k => ?_) (Ev.now _)
   simp only [ZP.c1_Common.l0]
   rw [if_pos (T_is0.2 rfl)]
  ·have hm:=Nat.mod_lt a h0
   have hr:=ih (a%b) hm b hb (Nat.le_trans (za3 (Nat.le_of_lt hm)) hb)
   have hd:ZP.c1_Divide.f (T a) (T b)=some (T (a/b),T (a%b)):=Divide_T ha hb h0
   rw [Nat.gcd_comm a b,Nat.gcd_rec b a,Nat.gcd_comm]
   refine Ev.step (f:=fun k=>ZP.c1_Common.l0 k (T b) (T (a%b))) (fun k => ?_) hr
   simp only [ZP.c1_Common.l0]
   rw [if_neg (fun e=>by have:=T_is0.1 e; omega),hd]
   rfl
def c1_Common.f (a0 a1:ByteArray):Option ByteArray:=(numT a0).bind fun x=>(numT a1).bind fun y=>some (T (Nat.gcd x y))
theorem c1_Common.calls (a0 a1:ByteArray) (r:ByteArray) (w:World) (h:c1_Common.f a0 a1=some r) :
  Calls Tryz.prog 95 #[.string a0,.string a1] w fun e w'=>e = .returned (.string r)∧Below w.heap.size w w':=by
 unfold c1_Common.f at h
 obtain ⟨x,hx,h⟩:=Option.bind_eq_some_iff.1 h
 obtain ⟨y,hy,h⟩:=Option.bind_eq_some_iff.1 h
 obtain rfl:=Option.some.inj h
 obtain ⟨rfl,h1⟩:=zbR hx
 obtain ⟨rfl,h2⟩:=zbR hy
 obtain ⟨k,hk⟩:=(common_ev y x h1 h2).rounds
 exact ZP.c1_Common.calls k _ _ _ w hk
theorem Common_T {a b:Nat} (ha:(T a).size≤137438953472) (hb:(T b).size≤137438953472):c1_Common.f (T a) (T b)=some (T (Nat.gcd a b)):=by
 unfold c1_Common.f
 rw [numT_T ha,numT_T hb]; rfl
def c2_Zeros.f (a0:Int):Option ByteArray:=ZP.c2_Zeros.f a0
theorem Zeros_n (n:Nat) (h:n≤1099511627776):c2_Zeros.f n=some (zer n):=by
 unfold c2_Zeros.f ZP.c2_Zeros.f
 rw [if_pos (by omega),Int.toNat_natCast]; rfl
def sgn (s:Bool) (a:Nat):Int:=if s then -(a:Int) else a
theorem zcU (s:Bool) (a:Nat):(sgn s a).natAbs=a:=by cases s<;>simp [sgn]
theorem zcN (x:Int):sgn (decide (x<0)) x.natAbs=x:=by
 unfold sgn
 by_cases h:x<0
 ·rw [decide_eq_true h,if_pos rfl]; omega
 ·rw [decide_eq_false h,if_neg (by decide)]; omega
theorem zdi (s:Bool) (a b:Nat) (hb:0<b) :
  (Rat.divInt (sgn s a) b).num.natAbs=a/Nat.gcd a b∧(Rat.divInt (sgn s a) b).den=b/Nat.gcd a b∧decide ((Rat.divInt (sgn s a) b).num<0)=(s && decide (a≠0)):=by
 obtain ⟨h1,h2⟩:=div_parts (sgn s a) b (by omega)
 have hg:Int.gcd (sgn s a) b=Nat.gcd a b:=by unfold Int.gcd; rw [zcU,Int.natAbs_natCast]
 rw [hg,zcU] at h1
 rw [hg,Int.natAbs_natCast] at h2
 refine ⟨?_,h2,?_⟩
 ·rw [h1]
  generalize a/Nat.gcd a b=q
  unfold sg; split<;>simp
 ·rw [h1]
  have hb':¬ ((b:Nat):Int)<0:=by omega
  have hgp:0<Nat.gcd a b:=Nat.gcd_pos_of_pos_right _ hb
  have hq:a≠0→0<a/Nat.gcd a b:=fun ha=>Nat.div_pos (Nat.le_of_dvd (by omega) (Nat.gcd_dvd_left a b)) hgp
  cases s
  ·have:¬ (sgn false a)<0:=by simp [sgn]
   have e:¬ ((a/Nat.gcd a b:Nat):Int)<0:=Int.not_lt.2 (Int.natCast_nonneg _)
   simp only [this,hb',sg,decide_false,bne_self_eq_false,Bool.false_eq_true,if_false,e,Bool.false_and]
  ·by_cases ha:a=0
   ·subst ha
    simp [sgn,sg]
   ·have h3:=hq ha
    generalize a/Nat.gcd a b=q at *
    have:(sgn true a)<0:=by simp [sgn]; omega
    have e : -(q:Int)<0:=by omega
    simp only [this,hb',sg,decide_true,decide_false,Bool.true_bne,Bool.not_false,if_true,e,ne_eq,ha,not_false_eq_true,Bool.true_and]
theorem sgn_mul (s t:Bool) (a b:Nat):sgn s a*sgn t b=sgn (s != t) (a*b):=by
 cases s<;>cases t<;>simp [sgn,Int.neg_mul,Int.mul_neg]
theorem sgn_add_same (s:Bool) (a b:Nat):sgn s a+sgn s b=sgn s (a+b):=by cases s<;>simp [sgn]<;>omega
theorem sgn_add_ge (s t:Bool) (a b:Nat) (h:s≠t) (hle:b≤a):sgn s a+sgn t b=sgn s (a-b):=by cases s<;>cases t<;>simp [sgn] at *<;>omega
theorem sgn_add_lt (s t:Bool) (a b:Nat) (h:s≠t) (hle:a≤b):sgn s a+sgn t b=sgn t (b-a):=by cases s<;>cases t<;>simp [sgn] at *<;>omega
theorem zcT (s:Bool) (a b:Nat):sgn s a*(b:Int)=sgn s (a*b):=by cases s<;>simp [sgn,Int.neg_mul]
def near (a b:Nat):Nat:=if b<2*(a%b)∨(2*(a%b)=b∧a/b%2=1) then a/b+1 else a/b
theorem num_mul (u v:Int) (hv:v≠0):(Rat.divInt u v).num*v=u*(Rat.divInt u v).den:=by
 have h:=Rat.num_divInt_den (Rat.divInt u v)
 have hd:((Rat.divInt u v).den:Int)≠0:=by have:=(Rat.divInt u v).den_nz; omega
 exact (Rat.divInt_eq_divInt_iff hd hv).1 h
theorem sign_scale {p q v d:Int} (hv:0<v) (hd:0<d) (h:p*v=d*q):p.sign=q.sign:=by
 have h1:(p*v).sign=p.sign:=by rw [Int.sign_mul,Int.sign_eq_one_of_pos hv,Int.mul_one]
 have h2:(d*q).sign=q.sign:=by rw [Int.sign_mul,Int.sign_eq_one_of_pos hd,Int.one_mul]
 rw [←h1,h,h2]
theorem int_div1 (a:Int):((a:Int):Rat)=Rat.divInt a 1:=by
 refine Rat.ext ?_ ?_
 ·rw [Rat.num_divInt]; simp
 ·rw [Rat.den_divInt]; simp
theorem sub_floor (x:Rat):x-(x.floor:Rat)=Rat.divInt (x.num%x.den) x.den:=by
 have hd:(x.den:Int)≠0:=by have:=x.den_nz; omega
 have h1:((x.floor:Int):Rat)=Rat.divInt x.floor 1:=int_div1 _
 conv=>lhs; lhs; rw [←Rat.num_divInt_den x]
 rw [h1,Rat.divInt_sub_divInt _ _ hd (by decide),Int.mul_one,Int.mul_one,Rat.floor_def]
 congr 1
 have:=Int.emod_add_mul_ediv x.num x.den
 rw [Int.mul_comm] at this
 omega
theorem half_sign (x:Rat):halfS x=(2*(x.num%x.den)-x.den).sign:=by
 have hd:(0:Int)<x.den:=by have:=x.den_pos; omega
 have e1:(Rat.divInt 1 2).den=2:=by decide
 have e2:(Rat.divInt 1 2).num=1:=by decide
 unfold halfS
 rw [e1,e2,sub_floor]
 have hn:=num_mul (x.num%x.den) x.den (by omega)
 have hp:(0:Int)<(Rat.divInt (x.num%x.den) x.den).den:=by have:=(Rat.divInt (x.num%x.den) x.den).den_pos; omega
 refine sign_scale hd hp ?_
 generalize (Rat.divInt (x.num%x.den) x.den).num=n at *
 generalize ((Rat.divInt (x.num%x.den) x.den).den:Int)=m at *
 grind
theorem even_eq (x:Rat):evenR x=if (x.den:Int)<2*(x.num%x.den)∨(2*(x.num%x.den)=x.den∧(x.num/x.den).natAbs%2=1) then x.num/x.den+1 else x.num/x.den:=by
 have h1:0<halfS x↔(x.den:Int)<2*(x.num%x.den):=by rw [half_sign,Int.sign_pos_iff]; omega
 have h2:halfS x=0↔2*(x.num%x.den)=x.den:=by rw [half_sign,Int.sign_eq_zero_iff_zero]; omega
 unfold evenR
 rw [Rat.floor_def]
 simp only [h1,h2]
theorem even_sgn (s:Bool) (a b:Nat) (hb:0<b):(if (b:Int)<2*(sgn s a%b)∨(2*(sgn s a%b)=b∧(sgn s a/b).natAbs%2=1) then sgn s a/b+1 else sgn s a/b)=sgn s (near a b):=by
 have h1:=Nat.div_add_mod a b
 have h2:=Nat.mod_lt a hb
 cases s
 ·have e1:sgn false a=a:=rfl
  have e2:((a:Int))%b=((a%b:Nat):Int):=(Int.natCast_emod _ _).symm
  have e3:((a:Int))/b=((a/b:Nat):Int):=(Int.natCast_ediv _ _).symm
  rw [e1,e2,e3]
  unfold near
  generalize a%b=r at *
  generalize a/b=q at *
  have e4:∀ n,sgn false n=n:=fun _=>rfl
  rw [e4]
  simp only [Int.natAbs_natCast]
  split<;>split<;>omega
 ·have e1:sgn true a = -a:=rfl
  have e4:∀ n,sgn true n = -n:=fun _=>rfl
  rw [e1,e4]
  by_cases hz:a%b=0
  ·have e5:(-(a:Int))/b = -((a/b:Nat):Int)∧(-(a:Int))%b=0:=by
    refine (Int.ediv_emod_unique (by omega)).2 ⟨?_,by omega,by omega⟩
    rw [hz,Nat.add_zero] at h1
    have:((b*(a/b):Nat):Int)=a:=by rw [h1]
    rw [Int.natCast_mul] at this
    rw [Int.mul_neg]; omega
   rw [e5.1,e5.2]
   unfold near
   rw [hz]
   generalize a/b=q at *
   split<;>split<;>omega
  ·have e5:(-(a:Int))/b = -((a/b:Nat):Int)-1∧(-(a:Int))%b=b-((a%b:Nat):Int):=by
    refine (Int.ediv_emod_unique (by omega)).2 ⟨?_,by omega,by omega⟩
    have:((b*(a/b)+a%b:Nat):Int)=a:=by rw [h1]
    rw [Int.natCast_add,Int.natCast_mul] at this
    rw [Int.mul_sub,Int.mul_neg,Int.mul_one]; omega
   rw [e5.1,e5.2]
   unfold near
   generalize a%b=r at *
   generalize a/b=q at *
   split<;>split<;>omega
theorem even_near (x:Rat):evenR x=sgn (decide (x.num<0)) (near x.num.natAbs x.den):=by
 have h:=even_sgn (decide (x.num<0)) x.num.natAbs x.den x.den_pos
 have hs:sgn (decide (x.num<0)) x.num.natAbs=x.num:=by
  unfold sgn
  by_cases h:x.num<0
  ·rw [decide_eq_true h,if_pos rfl]; omega
  ·rw [decide_eq_false h,if_neg (by decide)]; omega
 rw [hs] at h
 rw [even_eq]
 exact h
theorem near_scale (a b k:Nat) (hk:0<k):near (a*k) (b*k)=near a b:=by
 unfold near
 rw [Nat.mul_div_mul_right _ _ hk,Nat.mul_mod_mul_right]
 have h1:b*k<2*(a%b*k)↔b<2*(a%b):=by
  rw [←Nat.mul_assoc]; exact Nat.mul_lt_mul_right hk
 have h2:2*(a%b*k)=b*k↔2*(a%b)=b:=by
  rw [←Nat.mul_assoc]; exact Nat.mul_left_inj (by omega)
 simp only [h1,h2]
theorem near_div (x:Rat) (a b:Nat) (hb:0<b) (h:x.num.natAbs*b=a*x.den):near x.num.natAbs x.den=near a b:=by
 rw [←near_scale x.num.natAbs x.den b hb,h,Nat.mul_comm x.den b,near_scale a b x.den x.den_pos]
end Go.Proofs.ZQ
end
section
namespace Go.Proofs.ZQ
open Go.RowKit Go.Proofs.ZW.Wa Go.Proofs.ZW.Wb Go.Proofs.ZW.Wc
attribute [local go_sem] zaI zaG zaS zaR zaB zaA zaH zaF
noncomputable def errW:Option Int→Value
 | none => .nilIface
 | some c => .iface 0 (.int .i64 c)
theorem zal:errW none = .nilIface:=rfl
theorem zak (c:Int):errW (some c) = .iface 0 (.int .i64 c):=rfl
theorem info3:(Tryz.prog.info? 3).map (fun i=>(i.zero,i.size,i.bytes))=some (some (.int .i64 0),1,8):=by kernel_rfl
theorem info171:(Tryz.prog.info? 171).map (fun i=>(i.zero,i.size,i.bytes))=some (some (.int .u32 0),1,4):=by kernel_rfl
noncomputable def c2_Told.j0:Nat→Bool→Bool→ByteArray→ByteArray→Option (ByteArray×ByteArray×Int)
 | 0,_,_,_,_=>none
 | k+1,x13,x558000,x558001,x558002=>if x13=true then (some ((⟨#[]⟩:ByteArray),(⟨#[]⟩:ByteArray),7)) else (if x558000=true then (if 1+x558001.size≤9223372036854775807 then (some ((⟨#[45]⟩:ByteArray)++x558001,x558002,0)) else (none)) else (some (x558001,x558002,0)))
noncomputable def c2_Told.f (k:Nat) (a0_0:Bool) (a0_1:ByteArray) (a0_2:ByteArray):Option (ByteArray×ByteArray×Int):=if (a0_1.size:Int)>600 then (c2_Told.j0 k true a0_0 a0_1 a0_2) else (c2_Told.j0 k (decide ((a0_2.size:Int)>600)) a0_0 a0_1 a0_2)
theorem c2_Told.calls (k:Nat) (a0_0:Bool) (a0_1:ByteArray) (a0_2:ByteArray) (r1:ByteArray) (r2:ByteArray) (r3:Int) (w:World) (h:c2_Told.f k a0_0 a0_1 a0_2=some (r1,r2,r3)) :
  Calls Tryz.prog 110 #[.agg #[.bool a0_0,.string a0_1,.string a0_2]] w fun e w'=>e = .returned (.tuple #[.agg #[.string r1,.string r2],.int .i64 r3])∧Below w.heap.size w w':=by
 have hu66:=Tryz.underlying66
 have hu23:=Tryz.underlying23
 have HB:=Aside0.mk (Below.refl w.heap.size w)
 have H:(if (a0_1.size:Int)>600 then (c2_Told.j0 k true a0_0 a0_1 a0_2) else (c2_Told.j0 k (decide ((a0_2.size:Int)>600)) a0_0 a0_1 a0_2))=some (r1,r2,r3):=h
 clear h
 have HC2:=Aside0.mk H
 clear H
 go_enter Tryz.func110,Tryz.ntmps110
 go_upto_region 1 with (first|((with_reducible refine zaO (N:=1) rfl ?_); (try (refine zb1 (by rfl) ?_; dsimp only)); refine za9 ?hg (N:=1) ?hd (cs:=#[.bool a0_0,.string a0_1,.string a0_2]) (t:=66) ?hr ?_; (case hd=>rfl); (case hg=>rfl); (case hr=>first|(go_simp; done)|(go_simp; rfl)); intro gb557 hg w3 hbox hb; have n0_:=Aside0.mk (zam (by repeat (first|(with_reducible first|exact HB.out|apply zaa|apply zab|apply zac)|exact HB.out)) hb); have n1_:=Aside0.mk (hbox); have n2_:=Aside0.mk ((by rw [hg]; exact (zan (by repeat (first|(with_reducible first|exact HB.out|apply zaa|apply zab|apply zac)|exact HB.out))):w.heap.size≤gb557)); have n3_:=Aside0.mk ((by rw [hg]; exact (zan (by repeat (first|(with_reducible first|exact HB.out|apply zaa|apply zab|apply zac)|exact HB.out))):w.heap.size≤gb557)); clear HB; have HB:=n0_; have BK557:=n1_; have GW557:=n2_; have GE557:=n3_; clear n0_ n1_ n2_ n3_; clear hb hbox hg)|((with_reducible refine zaO (N:=2) rfl ?_); (try (refine zb1 (by rfl) ?_; dsimp only)); refine za9 ?hg (N:=2) ?hd (cs:=#[.string (⟨#[]⟩:ByteArray),.string (⟨#[]⟩:ByteArray)]) (t:=23) ?hr ?_; (case hd=>rfl); (case hg=>rfl); (case hr=>first|(go_simp; done)|(go_simp; rfl)); intro gb558 hg w4 hbox hb; have n0_:=Aside0.mk (zav (g:=gb557) (o:=.cells #[.bool a0_0,.string a0_1,.string a0_2] 66 (0,0)) (by (with_reducible repeat (first|refine zah ?_ _|refine zaj ?_|refine zai ?_ _)); exact BK557.out) hb); have n1_:=Aside0.mk (zam (by repeat (first|(with_reducible first|exact HB.out|apply zaa|apply zab|apply zac|refine zag ?_ GE557.out)|exact HB.out)) hb); have n2_:=Aside0.mk (hbox); have n3_:=Aside0.mk ((by rw [hg]; exact (zan (by repeat (first|(with_reducible first|exact HB.out|apply zaa|apply zab|apply zac|refine zag ?_ GE557.out)|exact HB.out))):w.heap.size≤gb558)); have n4_:=Aside0.mk ((by rw [hg]; exact (zan (by repeat (first|(with_reducible first|exact HB.out|apply zaa|apply zab|apply zac|refine zag ?_ GE557.out)|exact HB.out))):w.heap.size≤gb558)); have n5_:=Aside0.mk ((by rw [hg]; exact Nat.ne_of_lt (zar (g:=gb557) (o:=.cells #[.bool a0_0,.string a0_1,.string a0_2] 66 (0,0)) (by (with_reducible repeat (first|refine zah ?_ _|refine zaj ?_|refine zai ?_ _)); exact BK557.out)):gb557≠gb558)); have n6_:=Aside0.mk ((by rw [hg]; exact Nat.ne_of_gt (zar (g:=gb557) (o:=.cells #[.bool a0_0,.string a0_1,.string a0_2] 66 (0,0)) (by (with_reducible repeat (first|refine zah ?_ _|refine zaj ?_|refine zai ?_ _)); exact BK557.out)):gb558≠gb557)); clear BK557; clear HB; have BK557:=n0_; have HB:=n1_; have BK558:=n2_; have GW558:=n3_; have GE558:=n4_; have NB557_539:=n5_; have NB558_538:=n6_; clear n0_ n1_ n2_ n3_ n4_ n5_ n6_; clear hb hbox hg))
 (try simp only [Act.put,List.setIfInBounds_toArray,List.set_cons_zero,List.set_cons_succ])
 go_cut [13] (fun v13 wc=>∃ (kq:Nat) (x13_1:Bool),v13 = .bool x13_1∧Aside0 (c2_Told.j0 kq x13_1 a0_0 a0_1 a0_2=some (r1,r2,r3))∧Aside0 (kq≤k)∧Aside0 (wc.heap[gb557]? = some (.cells #[.bool a0_0,.string a0_1,.string a0_2] 66 (0,0)))∧Aside0 (wc.heap[gb558]? = some (.cells #[.string (⟨#[]⟩:ByteArray),.string (⟨#[]⟩:ByteArray)] 23 (0,0)))∧Aside0 (Below w.heap.size w wc))
 case first =>
  have H:=HC2.out
  clear HC2
  by_cases c5:(a0_1.size:Int)>600
  ·rw [if_pos c5] at H
   have c5b0:decide (600<(a0_1.size:Int))=true:=decide_eq_true c5
   have c5b1:decide (600<a0_1.size)=true:=decide_eq_true (by omega)
   clear c5
   (first|rw [c5b0]|(simp only [i64_w,i32_w]; rw [c5b0])|skip)
   have H':=Aside0.mk H
   clear H
   have hnb6:=NB557_539.out
   have hnc6:=NB558_538.out
   have hcz7_0:w4.cell? ⟨gb557,0,none⟩=some (.bool a0_0):=(zaf BK557.out 0).trans rfl
   have hcz7_1:w4.cell? ⟨gb557,1,none⟩=some (.string a0_1):=(zaf BK557.out 1).trans rfl
   have hcz7_2:w4.cell? ⟨gb557,2,none⟩=some (.string a0_2):=(zaf BK557.out 2).trans rfl
   have hfz7_0:=zae BK557.out 0
   have hfz7_1:=zae BK557.out 1
   have hfz7_2:=zae BK557.out 2
   go_wp2
   go_meet
   case rel=>exact ⟨_,(true),(by first|rfl|(simp; done)|(simp [*]; done)),H',⟨by first|omega|exact Nat.le_refl _⟩,⟨by (with_reducible repeat (first|refine zah ?_ _|refine zaj ?_|refine zai ?_ _)); exact BK557.out⟩,⟨by (with_reducible repeat (first|refine zah ?_ _|refine zaj ?_|refine zai ?_ _)); exact BK558.out⟩,⟨by repeat (first|(with_reducible first|exact HB.out|apply zaa|apply zab|apply zac|refine zag ?_ GE557.out|refine zag ?_ GE558.out)|exact HB.out)⟩⟩
  ·rw [if_neg c5] at H
   have c5b0:decide (600<(a0_1.size:Int))=false:=decide_eq_false c5
   have c5b1:decide (600<a0_1.size)=false:=decide_eq_false (by omega)
   clear c5
   (first|rw [c5b0]|(simp only [i64_w,i32_w]; rw [c5b0])|skip)
   have H':=Aside0.mk H
   clear H
   have hnb8:=NB557_539.out
   have hnc8:=NB558_538.out
   have hcz9_0:w4.cell? ⟨gb557,0,none⟩=some (.bool a0_0):=(zaf BK557.out 0).trans rfl
   have hcz9_1:w4.cell? ⟨gb557,1,none⟩=some (.string a0_1):=(zaf BK557.out 1).trans rfl
   have hcz9_2:w4.cell? ⟨gb557,2,none⟩=some (.string a0_2):=(zaf BK557.out 2).trans rfl
   have hfz9_0:=zae BK557.out 0
   have hfz9_1:=zae BK557.out 1
   have hfz9_2:=zae BK557.out 2
   go_wp2
   go_meet
   case rel=>exact ⟨_,(decide ((a0_2.size:Int)>600)),(by first|rfl|(simp; done)|(simp [*]; done)),H',⟨by first|omega|exact Nat.le_refl _⟩,⟨by (with_reducible repeat (first|refine zah ?_ _|refine zaj ?_|refine zai ?_ _)); exact BK557.out⟩,⟨by (with_reducible repeat (first|refine zah ?_ _|refine zaj ?_|refine zai ?_ _)); exact BK558.out⟩,⟨by repeat (first|(with_reducible first|exact HB.out|apply zaa|apply zab|apply zac|refine zag ?_ GE557.out|refine zag ?_ GE558.out)|exact HB.out)⟩⟩
 case rest =>
  clear HC2
  try clear c1
  try clear p2
  try clear c5
  try clear c5b0
  try clear c5b1
  try clear c6
  try clear c8
  try clear hcz7_0
  try clear hcz7_1
  try clear hcz7_2
  try clear hcz9_0
  try clear hcz9_1
  try clear hcz9_2
  try clear hfz7_0
  try clear hfz7_1
  try clear hfz7_2
  try clear hfz9_0
  try clear hfz9_1
  try clear hfz9_2
  obtain ⟨kq,x13_1,rfl,HA,HJ1,BK557,BK558,HB⟩:=hcut
  cases kq with
  | zero=>exact absurd HA.out (by simp [c2_Told.j0])
  | succ kj1 =>
   have H:=HA.out
   clear HA
   simp only [c2_Told.j0] at H
   by_cases c10:x13_1=true
   ·subst c10
    have H1:(some ((⟨#[]⟩:ByteArray),(⟨#[]⟩:ByteArray),7))=some (r1,r2,r3):=by rw [if_pos rfl] at H; exact H
    clear H
    have H:=H1
    clear H1
    simp only [Option.some.injEq,Prod.mk.injEq] at H
    obtain ⟨rfl,rfl,rfl⟩:=H
    have hnb11:=NB558_538.out
    have hnc11:=NB557_539.out
    have hcz12_0:wc.cell? ⟨gb558,0,none⟩=some (.string (⟨#[]⟩:ByteArray)):=(zaf BK558.out 0).trans rfl
    have hcz12_1:wc.cell? ⟨gb558,1,none⟩=some (.string (⟨#[]⟩:ByteArray)):=(zaf BK558.out 1).trans rfl
    have hfz12_0:=zae BK558.out 0
    have hfz12_1:=zae BK558.out 1
    go_wp2
    refine bodyPost_ret (zaM rfl _ _ gb558 23 #[.string (⟨#[]⟩:ByteArray),.string (⟨#[]⟩:ByteArray)] (0,0) _ rfl (by (with_reducible repeat (first|refine zah ?_ _|refine zaj ?_|refine zai ?_ _)); refine zaE (cs:=#[.string (⟨#[]⟩:ByteArray),.string (⟨#[]⟩:ByteArray)]) ?_ 1 _ rfl; (with_reducible repeat (first|refine zah ?_ _|refine zaj ?_|refine zai ?_ _)); refine zaE (cs:=#[.string (⟨#[]⟩:ByteArray),.string (⟨#[]⟩:ByteArray)]) ?_ 0 _ rfl; (with_reducible repeat (first|refine zah ?_ _|refine zaj ?_|refine zai ?_ _)); exact BK558.out) Tryz.underlying23 rfl (by kernel_rfl)) rfl ?_
    exact ⟨by first|rfl|(simp [zal,zak]<;>rfl)|(simp [*,zal,zak]<;>rfl),by repeat (first|(with_reducible first|exact HB.out|apply zaa|apply zab|apply zac|refine zag ?_ GE557.out|refine zag ?_ GE558.out)|exact HB.out)⟩
   ·replace c10:=Bool.eq_false_iff.mpr c10
    subst c10
    have H1:(if a0_0=true then (if 1+a0_1.size≤9223372036854775807 then (some ((⟨#[45]⟩:ByteArray)++a0_1,a0_2,0)) else (none)) else (some (a0_1,a0_2,0)))=some (r1,r2,r3):=by rw [if_neg (show ¬ (false=true) by decide)] at H; exact H
    clear H
    have H:=H1
    clear H1
    by_cases c13:a0_0=true
    ·subst c13
     have H1:(if 1+a0_1.size≤9223372036854775807 then (some ((⟨#[45]⟩:ByteArray)++a0_1,a0_2,0)) else (none))=some (r1,r2,r3):=by rw [if_pos rfl] at H; exact H
     clear H
     have H:=H1
     clear H1
     by_cases c14:1+a0_1.size≤9223372036854775807
     ·rw [if_pos c14] at H
      have c14b0:=eq_true c14
      have c14b1:decide (1+a0_1.size≤9223372036854775807)=true:=decide_eq_true c14
      try have c14b2:(9223372036854775807<1+a0_1.size)=False:=eq_false (Nat.not_lt.2 c14)
      simp only [Option.some.injEq,Prod.mk.injEq] at H
      obtain ⟨rfl,rfl,rfl⟩:=H
      have hnb15:=NB557_539.out
      have hnc15:=NB558_538.out
      have hcz16_0:wc.cell? ⟨gb557,0,none⟩=some (.bool true):=(zaf BK557.out 0).trans rfl
      have hcz16_1:wc.cell? ⟨gb557,1,none⟩=some (.string a0_1):=(zaf BK557.out 1).trans rfl
      have hcz16_2:wc.cell? ⟨gb557,2,none⟩=some (.string a0_2):=(zaf BK557.out 2).trans rfl
      have hfz16_0:=zae BK557.out 0
      have hfz16_1:=zae BK557.out 1
      have hfz16_2:=zae BK557.out 2
      have hcz17_0:wc.cell? ⟨gb558,0,none⟩=some (.string (⟨#[]⟩:ByteArray)):=(zaf BK558.out 0).trans rfl
      have hcz17_1:wc.cell? ⟨gb558,1,none⟩=some (.string (⟨#[]⟩:ByteArray)):=(zaf BK558.out 1).trans rfl
      have hfz17_0:=zae BK558.out 0
      have hfz17_1:=zae BK558.out 1
      go_wp2
      refine bodyPost_ret (zaM rfl _ _ gb558 23 #[.string ((⟨#[45]⟩:ByteArray)++a0_1),.string a0_2] (0,0) _ rfl (by (with_reducible repeat (first|refine zah ?_ _|refine zaj ?_|refine zai ?_ _)); refine zaE (cs:=#[.string ((⟨#[45]⟩:ByteArray)++a0_1),.string (⟨#[]⟩:ByteArray)]) ?_ 1 _ rfl; (with_reducible repeat (first|refine zah ?_ _|refine zaj ?_|refine zai ?_ _)); refine zaE (cs:=#[.string (⟨#[]⟩:ByteArray),.string (⟨#[]⟩:ByteArray)]) ?_ 0 _ rfl; (with_reducible repeat (first|refine zah ?_ _|refine zaj ?_|refine zai ?_ _)); exact BK558.out) Tryz.underlying23 rfl (by kernel_rfl)) rfl ?_
      exact ⟨by first|rfl|(simp [zal,zak]<;>rfl)|(simp [*,zal,zak]<;>rfl),by repeat (first|(with_reducible first|exact HB.out|apply zaa|apply zab|apply zac|refine zag ?_ GE557.out|refine zag ?_ GE558.out)|exact HB.out)⟩
     ·rw [if_neg c14] at H
      exact absurd H (by simp)
    ·replace c13:=Bool.eq_false_iff.mpr c13
     subst c13
     have H1:(some (a0_1,a0_2,0))=some (r1,r2,r3):=by rw [if_neg (show ¬ (false=true) by decide)] at H; exact H
     clear H
     have H:=H1
     clear H1
     simp only [Option.some.injEq,Prod.mk.injEq] at H
     obtain ⟨rfl,rfl,rfl⟩:=H
     have hnb18:=NB557_539.out
     have hnc18:=NB558_538.out
     have hcz19_0:wc.cell? ⟨gb557,0,none⟩=some (.bool false):=(zaf BK557.out 0).trans rfl
     have hcz19_1:wc.cell? ⟨gb557,1,none⟩=some (.string a0_1):=(zaf BK557.out 1).trans rfl
     have hcz19_2:wc.cell? ⟨gb557,2,none⟩=some (.string a0_2):=(zaf BK557.out 2).trans rfl
     have hfz19_0:=zae BK557.out 0
     have hfz19_1:=zae BK557.out 1
     have hfz19_2:=zae BK557.out 2
     have hcz20_0:wc.cell? ⟨gb558,0,none⟩=some (.string (⟨#[]⟩:ByteArray)):=(zaf BK558.out 0).trans rfl
     have hcz20_1:wc.cell? ⟨gb558,1,none⟩=some (.string (⟨#[]⟩:ByteArray)):=(zaf BK558.out 1).trans rfl
     have hfz20_0:=zae BK558.out 0
     have hfz20_1:=zae BK558.out 1
     go_wp2
     refine bodyPost_ret (zaM rfl _ _ gb558 23 #[.string a0_1,.string a0_2] (0,0) _ rfl (by (with_reducible repeat (first|refine zah ?_ _|refine zaj ?_|refine zai ?_ _)); refine zaE (cs:=#[.string a0_1,.string (⟨#[]⟩:ByteArray)]) ?_ 1 _ rfl; (with_reducible repeat (first|refine zah ?_ _|refine zaj ?_|refine zai ?_ _)); refine zaE (cs:=#[.string (⟨#[]⟩:ByteArray),.string (⟨#[]⟩:ByteArray)]) ?_ 0 _ rfl; (with_reducible repeat (first|refine zah ?_ _|refine zaj ?_|refine zai ?_ _)); exact BK558.out) Tryz.underlying23 rfl (by kernel_rfl)) rfl ?_
     exact ⟨by first|rfl|(simp [zal,zak]<;>rfl)|(simp [*,zal,zak]<;>rfl),by repeat (first|(with_reducible first|exact HB.out|apply zaa|apply zab|apply zac|refine zag ?_ GE557.out|refine zag ?_ GE558.out)|exact HB.out)⟩
noncomputable def c2_Lowest.f (a0:Bool) (a1:ByteArray) (a2:ByteArray):Option (Bool×ByteArray×ByteArray):=if a1.toList=([48]:List UInt8) then (some (false,(⟨#[48]⟩:ByteArray),(⟨#[49]⟩:ByteArray))) else ((c1_Common.f a1 a2).bind fun t560=>((c1_Divide.f a1 t560).bind fun bt561=>((c1_Divide.f a2 t560).bind fun bt563=>(some (a0,bt561.1,bt563.1)))))
theorem c2_Lowest.calls (a0:Bool) (a1:ByteArray) (a2:ByteArray) (r1:Bool) (r2:ByteArray) (r3:ByteArray) (w:World) (h:c2_Lowest.f a0 a1 a2=some (r1,r2,r3)) :
  Calls Tryz.prog 111 #[.bool a0,.string a1,.string a2] w fun e w'=>e = .returned (.agg #[.bool r1,.string r2,.string r3])∧Below w.heap.size w w':=by
 have hu66:=Tryz.underlying66
 have HB:=Aside0.mk (Below.refl w.heap.size w)
 have H:(if a1.toList=([48]:List UInt8) then (some (false,(⟨#[48]⟩:ByteArray),(⟨#[49]⟩:ByteArray))) else ((c1_Common.f a1 a2).bind fun t560=>((c1_Divide.f a1 t560).bind fun bt561=>((c1_Divide.f a2 t560).bind fun bt563=>(some (a0,bt561.1,bt563.1))))))=some (r1,r2,r3):=h
 clear h
 by_cases c4:a1.toList=([48]:List UInt8)
 ·rw [if_pos c4] at H
  have c4b0:(a1.toList == ([48]:List UInt8))=true:=beq_iff_eq.mpr c4
  have c4b1:(a1.toList != ([48]:List UInt8))=false:=bne_eq_false_iff_eq.mpr c4
  clear c4
  simp only [Option.some.injEq,Prod.mk.injEq] at H
  obtain ⟨rfl,rfl,rfl⟩:=H
  go_enter Tryz.func111,Tryz.ntmps111
  go_wp2_with (first|((with_reducible refine zaO (N:=6) rfl ?_); refine za9 ?hg (N:=6) ?hd (cs:=#[.bool false,.string (⟨#[]⟩:ByteArray),.string (⟨#[]⟩:ByteArray)]) (t:=66) ?hr ?_; (case hd=>rfl); (case hg=>rfl); (case hr=>first|(go_simp; done)|(go_simp; rfl)); intro gb559 hg w5 hbox hb; have n0_:=Aside0.mk (zam (by repeat (first|(with_reducible first|exact HB.out|apply zaa|apply zab|apply zac)|exact HB.out)) hb); have n1_:=Aside0.mk (hbox); have n2_:=Aside0.mk ((by rw [hg]; exact (zan (by repeat (first|(with_reducible first|exact HB.out|apply zaa|apply zab|apply zac)|exact HB.out))):w.heap.size≤gb559)); have n3_:=Aside0.mk ((by rw [hg]; exact (zan (by repeat (first|(with_reducible first|exact HB.out|apply zaa|apply zab|apply zac)|exact HB.out))):w.heap.size≤gb559)); clear HB; have HB:=n0_; have BK559:=n1_; have GW559:=n2_; have GE559:=n3_; clear n0_ n1_ n2_ n3_; clear hb hbox hg; have hcz6_0:w5.cell? ⟨gb559,0,none⟩=some (.bool false):=(zaf BK559.out 0).trans rfl; have hcz6_1:w5.cell? ⟨gb559,1,none⟩=some (.string (⟨#[]⟩:ByteArray)):=(zaf BK559.out 1).trans rfl; have hcz6_2:w5.cell? ⟨gb559,2,none⟩=some (.string (⟨#[]⟩:ByteArray)):=(zaf BK559.out 2).trans rfl; have hfz6_0:=zae BK559.out 0; have hfz6_1:=zae BK559.out 1; have hfz6_2:=zae BK559.out 2))
  refine bodyPost_ret (results_cell_row rfl _ _ gb559 66 #[.bool false,.string (⟨#[48]⟩:ByteArray),.string (⟨#[49]⟩:ByteArray)] (0,0) _ rfl (by (with_reducible repeat (first|refine zah ?_ _|refine zaj ?_|refine zai ?_ _)); refine zaE (cs:=#[.bool false,.string (⟨#[48]⟩:ByteArray),.string (⟨#[]⟩:ByteArray)]) ?_ 2 _ rfl; (with_reducible repeat (first|refine zah ?_ _|refine zaj ?_|refine zai ?_ _)); refine zaE (cs:=#[.bool false,.string (⟨#[]⟩:ByteArray),.string (⟨#[]⟩:ByteArray)]) ?_ 1 _ rfl; (with_reducible repeat (first|refine zah ?_ _|refine zaj ?_|refine zai ?_ _)); refine zaE (cs:=#[.bool false,.string (⟨#[]⟩:ByteArray),.string (⟨#[]⟩:ByteArray)]) ?_ 0 _ rfl; (with_reducible repeat (first|refine zah ?_ _|refine zaj ?_|refine zai ?_ _)); exact BK559.out) Tryz.underlying66 rfl (by kernel_rfl)) rfl ?_
  exact ⟨by first|rfl|(simp [zal,zak]<;>rfl)|(simp [*,zal,zak]<;>rfl),by repeat (first|(with_reducible first|exact HB.out|apply zaa|apply zab|apply zac|refine zag ?_ GE559.out)|exact HB.out)⟩
 ·rw [if_neg c4] at H
  have c4b0:(a1.toList == ([48]:List UInt8))=false:=beq_eq_false_iff_ne.mpr c4
  have c4b1:(a1.toList != ([48]:List UInt8))=true:=bne_iff_ne.mpr c4
  replace H:=Option.bind_eq_some_iff.mp H
  obtain ⟨t560,A70,H⟩:=H
  replace H:((c1_Divide.f a1 t560).bind fun bt561=>((c1_Divide.f a2 t560).bind fun bt563=>(some (a0,bt561.1,bt563.1))))=some (r1,r2,r3):=H
  have A7:=Aside0.mk A70
  clear A70
  replace H:=Option.bind_eq_some_iff.mp H
  obtain ⟨⟨t561,t562⟩,A80,H⟩:=H
  replace H:((c1_Divide.f a2 t560).bind fun bt563=>(some (a0,t561,bt563.1)))=some (r1,r2,r3):=H
  have A8:=Aside0.mk A80
  clear A80
  replace H:=Option.bind_eq_some_iff.mp H
  obtain ⟨⟨t563,t564⟩,A90,H⟩:=H
  replace H:(some (a0,t561,t563))=some (r1,r2,r3):=H
  have A9:=Aside0.mk A90
  clear A90
  simp only [Option.some.injEq,Prod.mk.injEq] at H
  obtain ⟨rfl,rfl,rfl⟩:=H
  go_enter Tryz.func111,Tryz.ntmps111
  go_wp2_with (first|((with_reducible refine zaO (N:=6) rfl ?_); refine za9 ?hg (N:=6) ?hd (cs:=#[.bool false,.string (⟨#[]⟩:ByteArray),.string (⟨#[]⟩:ByteArray)]) (t:=66) ?hr ?_; (case hd=>rfl); (case hg=>rfl); (case hr=>first|(go_simp; done)|(go_simp; rfl)); intro gb559 hg w10 hbox hb; have n0_:=Aside0.mk (zam (by repeat (first|(with_reducible first|exact HB.out|apply zaa|apply zab|apply zac)|exact HB.out)) hb); have n1_:=Aside0.mk (hbox); have n2_:=Aside0.mk ((by rw [hg]; exact (zan (by repeat (first|(with_reducible first|exact HB.out|apply zaa|apply zab|apply zac)|exact HB.out))):w.heap.size≤gb559)); have n3_:=Aside0.mk ((by rw [hg]; exact (zan (by repeat (first|(with_reducible first|exact HB.out|apply zaa|apply zab|apply zac)|exact HB.out))):w.heap.size≤gb559)); clear HB; have HB:=n0_; have BK559:=n1_; have GW559:=n2_; have GE559:=n3_; clear n0_ n1_ n2_ n3_; clear hb hbox hg)|((with_reducible refine zas (f:=95) rfl ?_); refine zaZ (some 17) rfl rfl Tryz.func95 (by kernel_rfl) rfl #[.string a1,.string a2] rfl (by (try simp only [List.map_toArray,List.map_cons,List.map_nil]); first|done|rfl|(simp only [List.length_drop,List.length_take]; rfl)) ?_; (with_reducible refine (c1_Common.calls a1 a2 t560 _ A7.out).mono ?_); rintro e w11 ⟨rfl,hb⟩; refine ⟨_,rfl,?_⟩; have n0_:=Aside0.mk (zav (g:=gb559) (o:=.cells #[.bool false,.string (⟨#[]⟩:ByteArray),.string (⟨#[]⟩:ByteArray)] 66 (0,0)) (by (with_reducible repeat (first|refine zah ?_ _|refine zaj ?_|refine zai ?_ _)); exact BK559.out) hb); have n1_:=Aside0.mk (zam (by repeat (first|(with_reducible first|exact HB.out|apply zaa|apply zab|apply zac|refine zag ?_ GE559.out)|exact HB.out)) hb); clear BK559; clear HB; have BK559:=n0_; have HB:=n1_; clear n0_ n1_; (try clear hb); (try clear hb2); (try clear hk); (try clear hi))|((with_reducible refine zas (f:=128) rfl ?_); refine zaZ (some 21) rfl rfl Tryz.func128 (by kernel_rfl) rfl #[.string a1,.string t560] rfl (by (try simp only [List.map_toArray,List.map_cons,List.map_nil]); first|done|rfl|(simp only [List.length_drop,List.length_take]; rfl)) ?_; (with_reducible refine (c1_Divide.calls a1 t560 t561 t562 _ A8.out).mono ?_); rintro e w12 ⟨rfl,hb⟩; refine ⟨_,rfl,?_⟩; have n0_:=Aside0.mk (zav (g:=gb559) (o:=.cells #[.bool false,.string (⟨#[]⟩:ByteArray),.string (⟨#[]⟩:ByteArray)] 66 (0,0)) (by (with_reducible repeat (first|refine zah ?_ _|refine zaj ?_|refine zai ?_ _)); exact BK559.out) hb); have n1_:=Aside0.mk (zam (by repeat (first|(with_reducible first|exact HB.out|apply zaa|apply zab|apply zac|refine zag ?_ GE559.out)|exact HB.out)) hb); clear BK559; clear HB; have BK559:=n0_; have HB:=n1_; clear n0_ n1_; (try clear hb); (try clear hb2); (try clear hk); (try clear hi))|((with_reducible refine zas (f:=128) rfl ?_); refine zaZ (some 27) rfl rfl Tryz.func128 (by kernel_rfl) rfl #[.string a2,.string t560] rfl (by (try simp only [List.map_toArray,List.map_cons,List.map_nil]); first|done|rfl|(simp only [List.length_drop,List.length_take]; rfl)) ?_; (with_reducible refine (c1_Divide.calls a2 t560 t563 t564 _ A9.out).mono ?_); rintro e w13 ⟨rfl,hb⟩; refine ⟨_,rfl,?_⟩; have n0_:=Aside0.mk (zav (g:=gb559) (o:=.cells #[.bool false,.string (⟨#[]⟩:ByteArray),.string (⟨#[]⟩:ByteArray)] 66 (0,0)) (by (with_reducible repeat (first|refine zah ?_ _|refine zaj ?_|refine zai ?_ _)); exact BK559.out) hb); have n1_:=Aside0.mk (zam (by repeat (first|(with_reducible first|exact HB.out|apply zaa|apply zab|apply zac|refine zag ?_ GE559.out)|exact HB.out)) hb); clear BK559; clear HB; have BK559:=n0_; have HB:=n1_; clear n0_ n1_; (try clear hb); (try clear hb2); (try clear hk); (try clear hi); have hcz14_0:w13.cell? ⟨gb559,0,none⟩=some (.bool false):=(zaf BK559.out 0).trans rfl; have hcz14_1:w13.cell? ⟨gb559,1,none⟩=some (.string (⟨#[]⟩:ByteArray)):=(zaf BK559.out 1).trans rfl; have hcz14_2:w13.cell? ⟨gb559,2,none⟩=some (.string (⟨#[]⟩:ByteArray)):=(zaf BK559.out 2).trans rfl; have hfz14_0:=zae BK559.out 0; have hfz14_1:=zae BK559.out 1; have hfz14_2:=zae BK559.out 2))
  refine bodyPost_ret (results_cell_row rfl _ _ gb559 66 #[.bool a0,.string t561,.string t563] (0,0) _ rfl (by (with_reducible repeat (first|refine zah ?_ _|refine zaj ?_|refine zai ?_ _)); refine zaE (cs:=#[.bool a0,.string t561,.string (⟨#[]⟩:ByteArray)]) ?_ 2 _ rfl; (with_reducible repeat (first|refine zah ?_ _|refine zaj ?_|refine zai ?_ _)); refine zaE (cs:=#[.bool a0,.string (⟨#[]⟩:ByteArray),.string (⟨#[]⟩:ByteArray)]) ?_ 1 _ rfl; (with_reducible repeat (first|refine zah ?_ _|refine zaj ?_|refine zai ?_ _)); refine zaE (cs:=#[.bool false,.string (⟨#[]⟩:ByteArray),.string (⟨#[]⟩:ByteArray)]) ?_ 0 _ rfl; (with_reducible repeat (first|refine zah ?_ _|refine zaj ?_|refine zai ?_ _)); exact BK559.out) Tryz.underlying66 rfl (by kernel_rfl)) rfl ?_
  exact ⟨by first|rfl|(simp [zal,zak]<;>rfl)|(simp [*,zal,zak]<;>rfl),by repeat (first|(with_reducible first|exact HB.out|apply zaa|apply zab|apply zac|refine zag ?_ GE559.out)|exact HB.out)⟩
end Go.Proofs.ZQ
end
