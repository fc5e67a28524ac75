/- Texts under the proof, joined by a program (prune.py): QPure1, QPure2, Q139, Q140, Q141, QPure3, HAll, HTwo, QRatB. -/
import Derived.Test.YtglaeambknhjlaaGreatDoorCRatSimplest13
import Derived.Test.YtglaeambknhjlaaGreatDoorCRatSimplest09
import Derived.Test.YtglaeambknhjlaaGreatDoorCRatSimplest14
import Derived.Test.YtglaeambknhjlaaGreatDoorCRatSimplest11
import Derived.Laws.CopyOwn
import Derived.Test.YtglaeambknhjlaaGreatDoorCRatSimplest04
import Derived.WalkSpells
import Derived.StillTailTactics
import Derived.Shelf.Abstract
import Derived.Test.YtglaeambknhjlaaGreatDoorCRatSimplest07
import Derived.Test.YtglaeambknhjlaaGreatDoorCRatSimplest12
set_option linter.unusedVariables false
set_option linter.unusedSimpArgs false
set_option exponentiation.threshold 20001
set_option maxHeartbeats 8000000
set_option maxRecDepth 100000
section
namespace Go.Proofs.ZQ
open Go.RowKit Go.Proofs.ZW.Wa Go.Proofs.ZP
def Fr (x:Rat):Bool×ByteArray×ByteArray:=(decide (x.num<0),T x.num.natAbs,T x.den)
theorem wtext_neg {x:Int} (h:x<0):wtext x=(⟨#[45]⟩:ByteArray)++T x.natAbs:=by
 refine (zax (zaM h)).trans (zax ?_).symm
 simp
theorem told_ev (x:Rat):Ev (fun k=>c2_Told.f k (Fr x).1 (Fr x).2.1 (Fr x).2.2) (toldR x):=by
 have s1:=zaw (n:=x.num.natAbs) (k:=600) (by decide)
 have s2:=zaw (n:=x.den) (k:=600) (by decide)
 unfold c2_Told.f
 show Ev (fun k=>if ((T x.num.natAbs).size:Int)>600 then _ else _) _
 by_cases h1:((T x.num.natAbs).size:Int)>600
 ·refine Ev.congr (fun k=>if_pos h1) (Ev.step (f:=fun _=>some (⟨#[]⟩,⟨#[]⟩,7)) (fun k => ?_) ?_)
  ·simp only [c2_Told.j0]
   rw [if_pos trivial]
  ·have:toldR x=(⟨#[]⟩,⟨#[]⟩,7):=if_neg (fun h=>by have:=s1.2 h.1; omega)
   rw [this]; exact Ev.now _
 ·refine Ev.congr (fun k=>if_neg h1) ?_
  by_cases h2:((T x.den).size:Int)>600
  ·refine Ev.step (f:=fun _=>some (⟨#[]⟩,⟨#[]⟩,7)) (fun k => ?_) ?_
   ·show c2_Told.j0 (k+1) (decide (((T x.den).size:Int)>600)) _ _ _=_
    rw [decide_eq_true h2]
    simp only [c2_Told.j0]
    rw [if_pos trivial]
   ·have:toldR x=(⟨#[]⟩,⟨#[]⟩,7):=if_neg (fun h=>by have:=s2.2 h.2; omega)
    rw [this]; exact Ev.now _
  ·have ht:toldR x=(wtext x.num,T x.den,0):=if_pos ⟨s1.1 (by omega),s2.1 (by omega)⟩
   rw [ht]
   refine Ev.step (f:=fun _=>some (wtext x.num,T x.den,0)) (fun k => ?_) (Ev.now _)
   show c2_Told.j0 (k+1) (decide (((T x.den).size:Int)>600)) (decide (x.num<0)) (T x.num.natAbs) (T x.den)=_
   rw [decide_eq_false h2]
   simp only [c2_Told.j0]
   rw [if_neg (by decide)]
   by_cases hn:x.num<0
   ·rw [if_pos (decide_eq_true hn),if_pos (by omega),wtext_neg hn]
   ·rw [if_neg (by simpa using hn),za1 (by omega)]
theorem T_1:(⟨#[49]⟩:ByteArray)=T 1:=T_one.symm
theorem T_0:(⟨#[48]⟩:ByteArray)=T 0:=T_zero.symm
theorem fr_of (s:Bool) (a b:Nat) (hb:0<b):Fr (Rat.divInt (sgn s a) b)=(s && decide (a≠0),T (a/Nat.gcd a b),T (b/Nat.gcd a b)):=by
 obtain ⟨h1,h2,h3⟩:=zdn s a b hb
 unfold Fr
 rw [h1,h2,h3]
theorem lowest_T (s:Bool) (a b:Nat) (hb:0<b) (ha:(T a).size≤137438953472) (hbs:(T b).size≤137438953472):c2_Lowest.f s (T a) (T b)=some (Fr (Rat.divInt (sgn s a) b)):=by
 unfold c2_Lowest.f
 rw [fr_of s a b hb]
 by_cases h0:a=0
 ·subst h0
  rw [if_pos (T_is0.2 rfl),T_0,T_1]
  have:b/Nat.gcd 0 b=1:=by rw [Nat.gcd_zero_left]; exact Nat.div_self hb
  rw [this,Nat.zero_div]
  simp
 ·have hg:0<Nat.gcd a b:=Nat.gcd_pos_of_pos_right _ hb
  have hgs:(T (Nat.gcd a b)).size≤137438953472:=Nat.le_trans (za9 (Nat.le_of_dvd hb (Nat.gcd_dvd_right a b))) hbs
  rw [if_neg (fun e=>h0 (T_is0.1 e)),Common_T ha hbs,Option.bind_some,Divide_T ha hgs hg,Option.bind_some,Divide_T hbs hgs hg,Option.bind_some]
  rw [decide_eq_true h0,Bool.and_true]
def spl (a:ByteArray):Bool×ByteArray:=if a.data.toList.head? = some 45 then (true,a.extract 1 a.size) else (false,a)
theorem spl_wtext (s:Bool) (m:Nat) (h:s=true→m≠0):spl (wtext (sgn s m))=(s,T m):=by
 have hz:sgn s m=0→s=false:=fun e=>by
  cases s
  ·rfl
  ·have:=h rfl
   simp [sgn] at e
   omega
 unfold spl
 cases s
 ·have:wtext (sgn false m)=T m:=by rw [za1 (by simp [sgn]),zc0]
  rw [this,if_neg ?_]
  intro e
  rcases hd:(T m).data.toList with _|⟨c,t⟩
  ·rw [hd] at e; simp at e
  ·rw [hd] at e
   injection e with e
   subst e
   exact zcJ m t hd
 ·have hneg:sgn true m<0:=by have:=h rfl; simp [sgn]; omega
  have hw:=zaM hneg
  rw [zc0] at hw
  have e:(wtext (sgn true m)).extract 1 (wtext (sgn true m)).size=T m:=by
   refine (zax ?_).trans (zax rfl).symm
   rw [ByteArray.data_extract,Array.toList_extract,List.extract_eq_take_drop,←zaq,hw,List.length_cons,List.drop_succ_cons,List.drop_zero,Nat.add_sub_cancel,List.take_length]
  rw [hw,List.head?_cons,if_pos rfl,e]
theorem spl_neg {a:ByteArray} (h:(spl a).1=true):a=(⟨#[45]⟩:ByteArray)++(spl a).2∧(spl a).2=a.extract 1 a.size:=by
 unfold spl at h ⊢
 split at h
 ·rename_i hh
  rw [if_pos hh]
  refine ⟨?_,rfl⟩
  rcases hd:a.data.toList with _|⟨c,t⟩
  ·rw [hd] at hh; simp at hh
  ·rw [hd] at hh
   injection hh with hh
   subst hh
   refine (zax hd).trans (zax ?_).symm
   rw [ByteArray.data_append,Array.toList_append,ByteArray.data_extract,Array.toList_extract,List.extract_eq_take_drop,hd,←zaq,hd]
   simp
 ·cases h
theorem spl_pos {a:ByteArray} (h:(spl a).1=false):(spl a).2=a:=by
 unfold spl at h ⊢
 split at h
 ·cases h
 ·rename_i hh; rw [if_neg hh]
theorem rr_iff (a b:ByteArray) (x:Rat):RR a b x↔∃ m n:Nat,(spl a).2=T m∧b=T n∧m<10^600∧n<10^600∧0<n∧Nat.gcd m n=1∧((spl a).1=true→m≠0)∧x=Rat.divInt (sgn (spl a).1 m) n:=by
 constructor
 ·intro h
  have hs:spl a=(decide (x.num<0),T x.num.natAbs):=by
   rw [h.num]
   conv=>lhs; rw [←sgn_of x.num]
   exact spl_wtext _ _ (fun e=>by have:=of_decide_eq_true e; omega)
  rw [hs]
  refine ⟨x.num.natAbs,x.den,rfl,h.den,h.ln,h.ld,x.den_pos,x.reduced,fun e=>by have:=of_decide_eq_true e; omega,?_⟩
  show x=Rat.divInt (sgn (decide (x.num<0)) x.num.natAbs) x.den
  rw [sgn_of,zb0]
 ·rintro ⟨m,n,h1,h2,h3,h4,h5,h6,h7,h8⟩
  obtain ⟨f1,f2,f3⟩:=zdn (spl a).1 m n h5
  rw [h6,Nat.div_one] at f1 f2
  rw [←h8] at f1 f2 f3
  have hnum:x.num=sgn (spl a).1 m:=by
   rw [←sgn_of x.num,f1,f3]
   cases hs:(spl a).1
   ·rfl
   ·rw [decide_eq_true (h7 hs)]; rfl
  refine ⟨?_,by rw [f2]; exact h2,by rw [f1]; exact h3,by rw [f2]; exact h4⟩
  rw [hnum]
  cases hs:(spl a).1
  ·rw [za1 (by simp [sgn]),zc0,←h1]; exact (spl_pos hs).symm
  ·rw [wtext_neg (by have:=h7 hs; simp [sgn]; omega),zc0,←h1]; exact (spl_neg hs).1
def coreB (neg:Bool) (t b:ByteArray):Bool:=rightB t && rightB b && decide (b≠T 0) && decide (neg=true→t≠T 0) && decide (Nat.gcd (dval t.data.toList) (dval b.data.toList)=1)
theorem core_iff (a b:ByteArray):coreB (spl a).1 (spl a).2 b=true↔∃ x,RR a b x:=by
 unfold coreB
 simp only [Bool.and_eq_true,decide_eq_true_eq]
 constructor
 ·rintro ⟨⟨⟨⟨h1,h2⟩,h3⟩,h4⟩,h5⟩
  obtain ⟨m,hm,hm2⟩:=right_iff.1 h1
  obtain ⟨n,hn,hn2⟩:=right_iff.1 h2
  rw [hm,hn,zbj,zbj] at h5
  refine ⟨_,(rr_iff a b _).2 ⟨m,n,hm,hn,hm2,hn2,?_,h5,fun e => ?_,rfl⟩⟩
  ·rcases Nat.eq_zero_or_pos n with h0|h0
   ·subst h0; exact absurd hn h3
   ·exact h0
  ·intro h0; subst h0; exact h4 e hm
 ·rintro ⟨x,hx⟩
  obtain ⟨m,n,h1,h2,h3,h4,h5,h6,h7,h8⟩:=(rr_iff a b x).1 hx
  rw [h1,h2,zbj,zbj]
  exact ⟨⟨⟨⟨right_iff.2 ⟨m,rfl,h3⟩,right_iff.2 ⟨n,rfl,h4⟩⟩,fun e=>by have:=T_inj e; omega⟩,fun e e2=>h7 e (T_inj e2)⟩,h6⟩
theorem b48 {s:ByteArray}:s.toList=([48]:List UInt8)↔s=T 0:=by
 rw [ba_toList]
 constructor
 ·intro h; rw [T_zero]; exact zax h
 ·rintro rfl; rw [T_zero]
theorem b49 {s:ByteArray}:(s.toList == ([49]:List UInt8))=decide (s=T 1):=by
 rw [Bool.eq_iff_iff,beq_iff_eq,decide_eq_true_eq,ba_toList]
 constructor
 ·intro h; rw [T_one]; exact zax h
 ·rintro rfl; rw [T_one]
theorem right_core (t b:ByteArray) (neg:Bool) (h:neg=true→t≠T 0):((c1_Right.f t).bind fun t410=>(if t410=true then ((c1_Right.f b).bind fun t411=>(if t411=true then (if b.toList=([48]:List UInt8) then (some false) else ((c1_Common.f t b).bind fun t412=>(some (t412.toList == ([49]:List UInt8))))) else (some false))) else (some false)))=some (coreB neg t b):=by
 unfold c1_Right.f coreB
 rw [Option.bind_some,Option.bind_some]
 cases h1:rightB t
 ·rw [if_neg (by decide)]; simp
 ·rw [if_pos rfl]
  cases h2:rightB b
  ·rw [if_neg (by decide)]; simp
  ·obtain ⟨m,rfl,hm2⟩:=right_iff.1 h1
   obtain ⟨n,rfl,hn2⟩:=right_iff.1 h2
   have sm:=(zaw (k:=600) (by decide)).2 hm2
   have sn:=(zaw (k:=600) (by decide)).2 hn2
   rw [if_pos rfl]
   by_cases h3:T n=T 0
   ·rw [if_pos (b48.2 h3)]; simp [h3]
   ·rw [if_neg (fun e=>h3 (b48.1 e)),Common_T (by omega) (by omega),Option.bind_some,b49,zbj,zbj]
    have e1:(T (Nat.gcd m n)=T 1)↔Nat.gcd m n=1:=T_eq_iff
    by_cases hn:neg=true
    ·have h4:=h hn
     simp [h3,h4,e1]
    ·simp [h3,hn,e1]
theorem bt0 {s:ByteArray} (h:0<s.size):(bt s 0 == 45)=(spl s).1:=by
 have hl:0<s.data.toList.length:=by rw [zaq]; exact h
 have hb:=bt_nth s hl
 have hb':bt s 0=(s.data.toList[0].toNat:Int):=hb
 have hh:s.data.toList.head? = some s.data.toList[0]:=by rw [List.head?_eq_getElem?,List.getElem?_eq_getElem hl]
 unfold spl
 rw [hh,hb']
 by_cases hc:s.data.toList[0]=45
 ·rw [hc,if_pos rfl]; rfl
 ·rw [if_neg (fun e=>hc (Option.some.inj e))]
  have:(s.data.toList[0].toNat:Int)≠45:=fun e=>hc (UInt8.toNat_inj.1 (by
   have h2:(45:UInt8).toNat=45:=rfl
   omega))
  exact beq_eq_false_iff_ne.2 this
theorem spl_empty {s:ByteArray} (h:s.toList=([]:List UInt8)):spl s=(false,s):=by
 unfold spl
 rw [ba_toList] at h
 rw [h,if_neg (by simp)]
theorem size_pos_of {s:ByteArray} (h:¬ s.toList=([]:List UInt8)):0<s.size:=by
 rw [ba_toList] at h
 rw [←zaq]
 exact List.length_pos_iff.2 h
theorem right_j (a b:ByteArray):Ev (fun k=>c2_Right.j0 k a (spl a).1 a b) (coreB (spl a).1 (spl a).2 b):=by
 refine Ev.step (f:=fun _=>some (coreB (spl a).1 (spl a).2 b)) (fun k => ?_) (Ev.now _)
 simp only [c2_Right.j0]
 cases hs:(spl a).1
 ·rw [if_neg (by decide),spl_pos hs]
  exact right_core a b false (fun e=>by cases e)
 ·obtain ⟨e1,e2⟩:=spl_neg hs
  have hsz:1≤(a.size:Int):=by
   have:a.size=1+(spl a).2.size:=by
    have h:=congrArg ByteArray.size e1
    rw [ByteArray.size_append] at h
    exact h
   omega
  rw [if_pos rfl,if_pos hsz,←e2]
  by_cases h0:(spl a).2=T 0
  ·rw [if_pos (b48.2 h0)]
   unfold coreB
   rw [h0]; simp
  ·rw [if_neg (fun e=>h0 (b48.1 e))]
   exact right_core _ b true (fun _=>h0)
theorem right_ev (a b:ByteArray):Ev (fun k=>c2_Right.f k a b) (coreB (spl a).1 (spl a).2 b):=by
 unfold c2_Right.f
 by_cases h:a.toList=([]:List UInt8)
 ·refine Ev.congr (fun k=>if_pos h) ?_
  have:=right_j a b
  rw [spl_empty h] at this ⊢
  exact this
 ·have hp:=size_pos_of h
  refine Ev.congr (fun k=>(if_neg h).trans (if_pos (by omega))) ?_
  rw [bt0 hp]
  exact right_j a b
theorem fr_int (n:Int):Fr (Rat.divInt n 1)=(decide (n<0),T n.natAbs,T 1):=by
 have h:=fr_of (decide (n<0)) n.natAbs 1 (by decide)
 rw [sgn_of,Nat.gcd_one_right,Nat.div_one,Nat.div_one] at h
 refine h.trans ?_
 by_cases hn:n<0
 ·rw [decide_eq_true hn,decide_eq_true (show n.natAbs≠0 by omega)]; rfl
 ·rw [decide_eq_false hn]; rfl
theorem whole_f (n:Int) (h0 : -9223372036854775808≤n) (h1:n<9223372036854775808):c2_Whole.f n=some (Fr (Rat.divInt n 1)):=by
 rw [fr_int]
 unfold c2_Whole.f c1_Of.f
 by_cases hn:n<0
 ·have e:IntKind.u64.wrap ((IntKind.u64.wrap (wrap64 (-(wrap64 (n+1)))))+1)=(n.natAbs:Int):=by
   have e1:wrap64 (n+1)=n+1:=by unfold wrap64; omega
   have e2:wrap64 (-(n+1)) = -(n+1):=by unfold wrap64; omega
   rw [e1,e2]
   have e3:IntKind.u64.wrap (-(n+1)) = -(n+1):=u64w (by omega) (by omega)
   rw [e3,u64w (by omega) (by omega)]; omega
  rw [if_pos hn,e,if_pos (by omega),Option.bind_some,Int.toNat_natCast,decide_eq_true hn,T_1]
 ·rw [if_neg hn,u64w (by omega) (by omega),if_pos (by omega),Option.bind_some,decide_eq_false hn,T_1]
  have:n.toNat=n.natAbs:=by omega
  rw [this]
theorem told_int (n:Int) (h0 : -9223372036854775808≤n) (h1:n<9223372036854775808):toldR (Rat.divInt n 1)=(wtext n,⟨#[49]⟩,0):=by
 have hf:=fr_int n
 unfold Fr at hf
 have e1:(Rat.divInt n 1).num=n:=by rw [Rat.num_divInt]; simp
 have e2:(Rat.divInt n 1).den=1:=by rw [Rat.den_divInt]; simp
 unfold toldR
 have hs:Sm (Rat.divInt n 1):=by
  unfold Sm
  rw [e1,e2]
  have h:(10:Nat)^20≤10^600:=Nat.pow_le_pow_right (by decide) (by decide)
  have h2:n.natAbs<10^20:=by
   have:(10:Nat)^20=100000000000000000000:=by decide
   omega
  have h3:1<(10:Nat)^20:=by decide
  exact ⟨Nat.lt_of_lt_of_le h2 h,Nat.lt_of_lt_of_le h3 h⟩
 rw [if_pos hs,e1,e2,T_one]
theorem of_ev (n:Int) (h0 : -9223372036854775808≤n) (h1:n<9223372036854775808):Ev (fun k=>c2_Of.f k n) (wtext n,⟨#[49]⟩):=by
 unfold c2_Of.f
 rw [whole_f n h0 h1]
 refine Ev.congr (f:=fun k=>(c2_Told.f k (Fr (Rat.divInt n 1)).1 (Fr (Rat.divInt n 1)).2.1 (Fr (Rat.divInt n 1)).2.2).bind fun bt578=>(some (bt578.1,bt578.2.1))) (fun k=>rfl) ?_
 have h:=told_ev (Rat.divInt n 1)
 rw [told_int n h0 h1] at h
 exact Ev.bind h (Ev.now _)
end Go.Proofs.ZQ
end
section
namespace Go.Proofs.ZQ
open Go.RowKit Go.Proofs.ZW.Wa Go.Proofs.ZW.Wb Go.Proofs.ZW.Wc
attribute [local go_sem] zaI zaG zaS zaR zaC zaB zaH zaF
noncomputable def c2_Near.f (a0:ByteArray) (a1:ByteArray):Option (ByteArray):=(c1_Divide.f a0 a1).bind fun bt421=>((c1_Times.f bt421.2 (⟨#[50]⟩:ByteArray)).bind fun t423=>((c1_Compare.f t423 a1).bind fun t424=>(if t424>0 then ((c1_Plus.f bt421.1 (⟨#[49]⟩:ByteArray)).bind fun t425=>(some t425)) else (if t424=0 then (if 0≤(wrap64 ((bt421.1.size:Int)-1)) then (if (wrap64 ((bt421.1.size:Int)-1))<(bt421.1.size:Int) then (if ((((bt bt421.1 (wrap64 ((bt421.1.size:Int)-1)))-48)%256)%2)=1 then ((c1_Plus.f bt421.1 (⟨#[49]⟩:ByteArray)).bind fun t426=>(some t426)) else (some bt421.1)) else (none)) else (none)) else (some bt421.1)))))
noncomputable def c2_Steps.f (a0_0:Bool) (a0_1:ByteArray) (a0_2:ByteArray) (a1:Int):Option (ByteArray):=if a1≥0 then ((c2_Zeros.f a1).bind fun t428=>(if 1+t428.size≤9223372036854775807 then ((c1_Times.f a0_1 ((⟨#[49]⟩:ByteArray)++t428)).bind fun t429=>((c2_Near.f t429 a0_2).bind fun t430=>(some t430))) else (none))) else ((c2_Zeros.f (wrap64 (-a1))).bind fun t431=>(if 1+t431.size≤9223372036854775807 then ((c1_Times.f a0_2 ((⟨#[49]⟩:ByteArray)++t431)).bind fun t432=>((c2_Near.f a0_1 t432).bind fun t433=>(some t433))) else (none)))
noncomputable def c2_Steps.B2:List Nat:=[0,1,0,4,12,31,0,64,255,511]
mutual
noncomputable def c2_Digits.j0:Nat→Int→Bool→ByteArray→ByteArray→Option (ByteArray×Int)
 | 0,_,_,_,_=>none
 | k+1,x1,x17,x435000,x435001=>if x17=true then (some ((⟨#[]⟩:ByteArray),1)) else ((c2_Read.f k x435000 x435001).bind fun bt436=>((c2_Steps.f bt436.1 bt436.2.1 bt436.2.2 x1).bind fun t440=>(if (t440.size:Int)>600 then (some ((⟨#[]⟩:ByteArray),7)) else (if bt436.1=true then (c2_Digits.j1 k x1 t440 (⟨#[]⟩:ByteArray) (t440.toList != ([48]:List UInt8))) else (c2_Digits.j1 k x1 t440 (⟨#[]⟩:ByteArray) false)))))
noncomputable def c2_Digits.j1:Nat→Int→ByteArray→ByteArray→Bool→Option (ByteArray×Int)
 | 0,_,_,_,_=>none
 | k+1,x1,x7,x8,x31=>if x31=true then (c2_Digits.j2 k x1 x7 (⟨#[45]⟩:ByteArray)) else (c2_Digits.j2 k x1 x7 x8)
noncomputable def c2_Digits.j2:Nat→Int→ByteArray→ByteArray→Option (ByteArray×Int)
 | 0,_,_,_=>none
 | k+1,x1,x7,x8=>if (x7.size:Int)≤x1 then ((c2_Zeros.f (wrap64 ((wrap64 (x1+1))-(x7.size:Int)))).bind fun t441=>(if t441.size+x7.size≤9223372036854775807 then (if x1=0 then (if x8.size+(t441++x7).size≤9223372036854775807 then (some (x8++(t441++x7),0)) else (none)) else (if 0≤(wrap64 (((t441++x7).size:Int)-x1)) then (if (wrap64 (((t441++x7).size:Int)-x1))≤((t441++x7).size:Int) then (if x8.size+((t441++x7).extract 0 ((wrap64 (((t441++x7).size:Int)-x1)):Int).toNat).size≤9223372036854775807 then (if (x8++((t441++x7).extract 0 ((wrap64 (((t441++x7).size:Int)-x1)):Int).toNat)).size+1≤9223372036854775807 then (if ((x8++((t441++x7).extract 0 ((wrap64 (((t441++x7).size:Int)-x1)):Int).toNat))++(⟨#[46]⟩:ByteArray)).size+((t441++x7).extract ((wrap64 (((t441++x7).size:Int)-x1)):Int).toNat (t441++x7).size).size≤9223372036854775807 then (some (((x8++((t441++x7).extract 0 ((wrap64 (((t441++x7).size:Int)-x1)):Int).toNat))++(⟨#[46]⟩:ByteArray))++((t441++x7).extract ((wrap64 (((t441++x7).size:Int)-x1)):Int).toNat (t441++x7).size),0)) else (none)) else (none)) else (none)) else (none)) else (none))) else (none))) else (if x1=0 then (if x8.size+x7.size≤9223372036854775807 then (some (x8++x7,0)) else (none)) else (if 0≤(wrap64 ((x7.size:Int)-x1)) then (if (wrap64 ((x7.size:Int)-x1))≤(x7.size:Int) then (if x8.size+(x7.extract 0 ((wrap64 ((x7.size:Int)-x1)):Int).toNat).size≤9223372036854775807 then (if (x8++(x7.extract 0 ((wrap64 ((x7.size:Int)-x1)):Int).toNat)).size+1≤9223372036854775807 then (if ((x8++(x7.extract 0 ((wrap64 ((x7.size:Int)-x1)):Int).toNat))++(⟨#[46]⟩:ByteArray)).size+(x7.extract ((wrap64 ((x7.size:Int)-x1)):Int).toNat x7.size).size≤9223372036854775807 then (some (((x8++(x7.extract 0 ((wrap64 ((x7.size:Int)-x1)):Int).toNat))++(⟨#[46]⟩:ByteArray))++(x7.extract ((wrap64 ((x7.size:Int)-x1)):Int).toNat x7.size),0)) else (none)) else (none)) else (none)) else (none)) else (none)))
end
noncomputable def c2_Digits.f (k:Nat) (a0_0:ByteArray) (a0_1:ByteArray) (a1:Int):Option (ByteArray×Int):=(c2_Right.f k a0_0 a0_1).bind fun t435=>(if t435=true then (if a1<0 then (c2_Digits.j0 k a1 true a0_0 a0_1) else (c2_Digits.j0 k a1 (decide (a1>600)) a0_0 a0_1)) else (some ((⟨#[]⟩:ByteArray),3)))
end Go.Proofs.ZQ
end
section
namespace Go.Proofs.ZQ
open Go.RowKit Go.Proofs.ZW.Wa Go.Proofs.ZP
theorem dval_zeros (k:Nat):dval (List.replicate k (48:UInt8))=0:=by
  induction k with
  | zero=>rfl
  | succ k ih=>rw [List.replicate_succ,zbV,ih]; simp
theorem T_ten (p:Nat):(⟨#[49]⟩:ByteArray)++ZP.zer p=T (10^p):=by
  have hd:((⟨#[49]⟩:ByteArray)++ZP.zer p).data.toList=49 :: List.replicate p (48:UInt8):=by
    rw [ByteArray.data_append,Array.toList_append]; simp [ZP.zer]
  refine (can_T ?_).trans (congrArg T ?_)
  · rw [hd]
    refine ⟨by simp,?_,fun e=>by simp at e⟩
    intro c hc
    rcases List.mem_cons.1 hc with rfl|hc
    · decide
    · rw [(List.mem_replicate.1 hc).2]; decide
  · rw [hd,zbV,dval_zeros,List.length_replicate]
    show (49-48)*10^p+0=_
    omega
theorem zer_sz (k:Nat):(ZP.zer k).size=k:=by show (List.replicate k (48:UInt8)).toArray.size=k; simp
theorem T_ten_size (p:Nat):(T (10^p)).size=p+1:=by
  rw [←T_ten,ByteArray.size_append,zer_sz]; show 1+p=_; omega
theorem T_last (n : Nat) : 0 < (T n).size ∧ bt (T n) (((T n).size : Int) - 1) = (48 + n % 10 : Nat) := by
  have hp:=zbb n
  refine ⟨hp,?_⟩
  have hl:(T n).size-1<(T n).data.toList.length:=by rw [zaq]; omega
  have e:((T n).size:Int)-1=(((T n).size-1:Nat):Int):=by omega
  rw [e,bt_nth _ hl]
  congr 1
  have hg:∀ (l:List UInt8) (h:l.length-1<l.length),l[l.length-1]=l.getLast (fun e=>by rw [e] at h; cases h):=fun l h=>(List.getLast_eq_getElem _).symm
  have h2:(T n).data.toList.length-1<(T n).data.toList.length:=by rw [zaq]; omega
  have e2:(T n).data.toList[(T n).size-1]=(T n).data.toList[(T n).data.toList.length-1]:=by
    congr 1
  rw [e2,hg _ h2]
  have hd:(T n).data.toList=decl n:=T_data n
  have h3:∀ (l:List UInt8) (h:l ≠ []),l=decl n→(l.getLast h).toNat=48+n%10:=by
    rintro l h rfl
    by_cases h0:n=0
    · subst h0; rfl
    · have e3:decl n=(rdig (n/10)).reverse ++ [UInt8.ofNat (48+n%10)]:=by
        unfold decl
        rw [if_neg h0,zbM (by omega),List.reverse_cons]
      have:(decl n).getLast h=UInt8.ofNat (48+n%10):=by
        exact (fun (l l':List UInt8) (c:UInt8) (h:l ≠ []) (e:l=l' ++ [c])=>(by subst e; simp:l.getLast h=c)) _ _ _ h e3
      rw [this,zaY _ (Nat.mod_lt _ (by decide))]
  exact h3 _ _ hd
theorem T_odd (n:Nat):((((bt (T n) (((T n).size:Int)-1))-48)%256)%2=1)↔n%2=1:=by
  rw [(T_last n).2]
  omega
theorem T_2:(⟨#[50]⟩:ByteArray)=T 2:=by unfold T; rw [zbN (by decide)]; rfl
theorem Near_T {a b:Nat} (ha:(T a).size≤137438950000) (hb:(T b).size≤137438950000) (h:0<b):c2_Near.f (T a) (T b)=some (T (near a b)):=by
  have hr:(T (a%b)).size≤137438950000:=Nat.le_trans (za9 (Nat.mod_le a b)) ha
  have hq:(T (a/b)).size≤137438950000:=Nat.le_trans (za9 (Nat.div_le_self a b)) ha
  have h2:(T 2).size≤137438950000:=by rw [←T_2]; decide
  have hr2:(T (a%b*2)).size≤137438952472:=by
    have:=zb5 (a%b) 2
    have e:(T 2).size=1:=by rw [←T_2]; rfl
    omega
  have h1:(T 1).size≤137438952472:=by rw [←T_1]; decide
  have hp:=T_last (a/b)
  have ho:=T_odd (a/b)
  unfold c2_Near.f
  rw [Divide_T (by omega) (by omega) h,Option.bind_some]
  simp only [T_2,T_1]
  rw [Times_T (by omega) (by omega),Option.bind_some,Compare_T (by omega) (by omega),Option.bind_some,Plus_T (by omega) (by omega),Option.bind_some]
  have hw:wrap64 (((T (a/b)).size:Int)-1)=((T (a/b)).size:Int)-1:=by unfold wrap64; omega
  rw [hw]
  unfold near
  rcases Nat.lt_trichotomy (a%b*2) b with hlt|hE|hgt
  · have hc:cmpN (a%b*2) b = -1:=if_pos hlt
    rw [hc,if_neg (by decide),if_neg (by decide),if_neg (by omega)]
  · have hc:cmpN (a%b*2) b=0:=(if_neg (by omega)).trans (if_neg (by omega))
    rw [hc,if_neg (by decide),if_pos rfl,if_pos (by omega),if_pos (by omega)]
    by_cases h5:a/b%2=1
    · rw [if_pos (ho.2 h5),if_pos (by omega)]
    · rw [if_neg (fun e=>h5 (ho.1 e)),if_neg (by omega)]
  · have hc:cmpN (a%b*2) b=1:=(if_neg (by omega)).trans (if_pos hgt)
    rw [hc,if_pos (by decide),if_pos (by omega)]
theorem even_places (x : Rat) (p : Nat) : evenR (x * tenR (p : Int)) = sgn (decide (x.num < 0)) (near (x.num.natAbs * 10 ^ p) x.den) := by
  have hden:=x.den_pos
  have e1:x*tenR (p:Int)=Rat.divInt (sgn (decide (x.num<0)) (x.num.natAbs*10^p)) x.den:=by
    have ht:tenR (p:Int)=(((10:Int)^p:Int):Rat):=by unfold tenR; rw [if_neg (by omega),Int.natAbs_natCast]
    have hi:((((10:Int)^p:Int)):Rat).num=(10:Int)^p:=rfl
    have hj:((((10:Int)^p:Int)):Rat).den=1:=rfl
    rw [ht,mul_divInt,hi,hj,Int.natCast_one,Int.mul_one,←zcZ,sgn_of,Int.natCast_pow]; rfl
  obtain ⟨f1,f2,f3⟩:=zdn (decide (x.num<0)) (x.num.natAbs*10^p) x.den hden
  rw [even_near,e1]
  have hn : near (Rat.divInt (sgn (decide (x.num < 0)) (x.num.natAbs * 10 ^ p)) x.den).num.natAbs (Rat.divInt (sgn (decide (x.num < 0)) (x.num.natAbs * 10 ^ p)) x.den).den = near (x.num.natAbs * 10 ^ p) x.den := by
    refine near_div _ _ _ hden ?_
    rw [f1,f2]
    generalize x.num.natAbs*10^p=A
    obtain ⟨u,hu⟩:=Nat.gcd_dvd_left A x.den
    obtain ⟨v,hv⟩:=Nat.gcd_dvd_right A x.den
    have hg:0<Nat.gcd A x.den:=Nat.gcd_pos_of_pos_right _ hden
    have hu' : A / Nat.gcd A x.den = u := by conv => lhs; lhs; rw [hu]
                                             exact Nat.mul_div_cancel_left _ hg
    have hv' : x.den / Nat.gcd A x.den = v := by conv => lhs; lhs; rw [hv]
                                                 exact Nat.mul_div_cancel_left _ hg
    rw [hu',hv']
    conv=>lhs; rw [hv]
    conv=>rhs; rw [hu]
    rw [←Nat.mul_assoc,Nat.mul_comm u,Nat.mul_assoc]
  rw [hn,f3]
  by_cases h0:x.num.natAbs*10^p=0
  · rw [h0]
    have:near 0 x.den=0:=by
      unfold near
      rw [Nat.zero_mod,Nat.zero_div]
      exact if_neg (by omega)
    rw [this]
    cases decide (x.num<0)<;>rfl
  · rw [decide_eq_true h0,Bool.and_true]
theorem Steps_T (s:Bool) (a b p:Nat) (hb:0<b) (ha:(T a).size≤100000) (hbs:(T b).size≤100000) (hp:p≤100000):c2_Steps.f s (T a) (T b) (p:Int)=some (T (near (a*10^p) b)):=by
  unfold c2_Steps.f
  have ht:=T_ten_size p
  have hm:(T (a*10^p)).size≤200001:=by have:=zb5 a (10^p); omega
  rw [if_pos (by omega),Zeros_n p (by omega),Option.bind_some,if_pos (by rw [zer_size]; omega),show (⟨#[49]⟩:ByteArray)++zer p=T (10^p) from T_ten p,Times_T (by omega) (by omega),Option.bind_some,Near_T (by omega) (by omega) hb,Option.bind_some]
theorem read_ev (a b:ByteArray) (x:Rat) (h:RR a b x):Ev (fun k=>c2_Read.f k a b) (Fr x):=by
  have hs:spl a=(decide (x.num<0),T x.num.natAbs):=by
    rw [h.num]
    conv=>lhs; rw [←sgn_of x.num]
    exact spl_wtext _ _ (fun e=>by have:=of_decide_eq_true e; omega)
  have hne:¬ a.toList=([]:List UInt8):=by
    intro e
    have h1:=spl_empty e
    rw [hs] at h1
    have h2:=congrArg Prod.snd h1
    have h3:=congrArg ByteArray.size h2
    have h4:=zbb x.num.natAbs
    have h5:a.size=0:=by rw [←zaq,←ba_toList,e]; rfl
    have h6:(T x.num.natAbs).size=a.size:=h3
    omega
  have hp:=size_pos_of hne
  have hb:(b.toList == ([]:List UInt8))=false:=by
    refine beq_eq_false_iff_ne.2 (fun e => ?_)
    have h4:=zbb x.den
    rw [←h.den,←zaq,←ba_toList,e] at h4
    cases h4
  unfold c2_Read.f
  rw [hb]
  refine Ev.congr (fun k=>if_neg hne) ?_
  refine Ev.step (f:=fun k=>some (Fr x)) (fun k => ?_) (Ev.now _)
  show c2_Read.j0 (k+1) false a b=_
  simp only [c2_Read.j0]
  have hbt:=bt0 hp
  rw [if_neg (by decide),if_pos (by omega)]
  have hF:Fr x=((spl a).1,(spl a).2,b):=by unfold Fr; rw [hs,h.den]
  rw [hF]
  cases hh:(spl a).1
  · rw [hh] at hbt
    rw [if_neg (beq_eq_false_iff_ne.1 hbt),spl_pos hh]
  · rw [hh] at hbt
    rw [if_pos (beq_iff_eq.1 hbt),if_pos (by omega),(spl_neg hh).2]
theorem tail_f (t sg:ByteArray) (p:Nat) (h1:p+1≤t.size) (h2:t.size≤100000) (h3:sg.size≤1):(if (p:Int)=0 then (if sg.size+t.size≤9223372036854775807 then (some (sg++t,(0:Int))) else (none)) else (if 0≤(wrap64 ((t.size:Int)-p)) then (if (wrap64 ((t.size:Int)-p))≤(t.size:Int) then (if sg.size+(t.extract 0 ((wrap64 ((t.size:Int)-p)):Int).toNat).size≤9223372036854775807 then (if (sg++(t.extract 0 ((wrap64 ((t.size:Int)-p)):Int).toNat)).size+1≤9223372036854775807 then (if ((sg++(t.extract 0 ((wrap64 ((t.size:Int)-p)):Int).toNat))++(⟨#[46]⟩:ByteArray)).size+(t.extract ((wrap64 ((t.size:Int)-p)):Int).toNat t.size).size≤9223372036854775807 then (some (((sg++(t.extract 0 ((wrap64 ((t.size:Int)-p)):Int).toNat))++(⟨#[46]⟩:ByteArray))++(t.extract ((wrap64 ((t.size:Int)-p)):Int).toNat t.size),0)) else (none)) else (none)) else (none)) else (none)) else (none)))=some (sg++ptT t p,0):=by
  have hw:wrap64 ((t.size:Int)-p)=(t.size:Int)-p:=by unfold wrap64; omega
  have hn:((t.size:Int)-p).toNat=t.size-p:=by omega
  have e0:(t.extract 0 (t.size-p)).size=min (t.size-p) t.size:=by rw [ByteArray.size_extract,Nat.sub_zero]
  have e1:(t.extract (t.size-p) t.size).size=t.size-(t.size-p):=by rw [ByteArray.size_extract,Nat.min_self]
  have e4:(⟨#[46]⟩:ByteArray).size=1:=rfl
  by_cases h0:p=0
  · subst h0
    have e:ptT t 0=t:=if_neg (by decide)
    rw [if_pos (show ((0:Nat):Int)=0 from rfl),if_pos (by omega),e]
  · rw [if_neg (by omega),hw,hn,if_pos (by omega),if_pos (by omega),if_pos (by omega),if_pos (by rw [ByteArray.size_append]; omega),if_pos (by rw [ByteArray.size_append,ByteArray.size_append]; omega)]
    unfold ptT
    rw [if_pos (by omega),ByteArray.append_assoc,ByteArray.append_assoc,ByteArray.append_assoc]
theorem j2_ev (p:Nat) (t sg:ByteArray) (hp:p≤600) (ht:t.size≤600) (ht0:0<t.size) (hs:sg.size≤1):Ev (fun k=>c2_Digits.j2 k (p:Int) t sg) (sg++ptT (padT t p) p,0):=by
  refine Ev.step (f:=fun k=>some (sg++ptT (padT t p) p,0)) (fun k => ?_) (Ev.now _)
  simp only [c2_Digits.j2]
  by_cases h:(t.size:Int)≤p
  · have hz:wrap64 ((wrap64 ((p:Int)+1))-(t.size:Int))=((p+1-t.size:Nat):Int):=by unfold wrap64; omega
    have hpad:padT t p=zer (p+1-t.size)++t:=if_pos (by omega)
    have hsz:(zer (p+1-t.size)).size=p+1-t.size:=zer_size _
    rw [if_pos h,hz,Zeros_n _ (by omega),Option.bind_some,if_pos (by omega),hpad]
    exact tail_f _ sg p (by rw [ByteArray.size_append]; omega) (by rw [ByteArray.size_append]; omega) hs
  · have hpad:padT t p=t:=if_neg (by omega)
    rw [if_neg h,hpad]
    exact tail_f t sg p (by omega) (by omega) hs
theorem digits_ev (a b : ByteArray) (p : Int) (hp0 : -9223372036854775808 ≤ p) (hp1 : p < 9223372036854775808) : ∃ r, rat_Digits.f a b p = some r ∧ Ev (fun k => c2_Digits.f k a b p) r := by
  by_cases he:∃ x,RR a b x
  · have hx := he.choose_spec
    have hc:=(core_iff a b).2 he
    have hr:=right_ev a b
    rw [hc] at hr
    refine ⟨digR he.choose p,?_,?_⟩
    · unfold rat_Digits.f; rw [dif_pos he]
    unfold c2_Digits.f
    generalize he.choose=x at hx
    refine Ev.bind hr ?_
    refine Ev.congr (fun k=>if_pos rfl) ?_
    by_cases hb:p<0∨600<p
    · have hd:digR x p=(⟨#[]⟩,1):=if_pos hb
      rw [hd]
      have hj:Ev (fun k=>c2_Digits.j0 k p true a b) ((⟨#[]⟩:ByteArray),(1:Int)):=by
        refine Ev.step (f:=fun _=>some (⟨#[]⟩,1)) (fun k => ?_) (Ev.now _)
        simp only [c2_Digits.j0]
        rw [if_pos trivial]
      by_cases hn:p<0
      · exact Ev.congr (fun k=>if_pos hn) hj
      · have:decide (p>600)=true:=decide_eq_true (by omega)
        rw [this]
        exact Ev.congr (fun k=>if_neg hn) hj
    · obtain ⟨q,rfl⟩:∃ q:Nat,p=q:=⟨p.toNat,by omega⟩
      have hq:q≤600:=by omega
      have hf:decide ((q:Int)>600)=false:=decide_eq_false (by omega)
      rw [hf]
      refine Ev.congr (fun k=>if_neg (by omega)) ?_
      have sn:=(zaw (k:=600) (by decide)).2 hx.ln
      have sd:=(zaw (k:=600) (by decide)).2 hx.ld
      have hE:=even_places x q
      have hst:=Steps_T (Fr x).1 x.num.natAbs x.den q x.den_pos (by omega) (by omega) (by omega)
      have hab:(evenR (x*tenR (q:Int))).natAbs=near (x.num.natAbs*10^q) x.den:=by rw [hE,zc0]
      have hdg:digR x (q:Int)=if 600<(T (near (x.num.natAbs*10^q) x.den)).size then (⟨#[]⟩,7) else (dgt (evenR (x*tenR (q:Int))) q,0):=by
        unfold digR
        rw [if_neg hb,hab,Int.toNat_natCast]
      rw [hdg]
      generalize near (x.num.natAbs*10^q) x.den=M at hst hE hab
      refine Ev.step (f:=fun k=>(c2_Read.f k a b).bind fun bt436=>((c2_Steps.f bt436.1 bt436.2.1 bt436.2.2 (q:Int)).bind fun t440=>(if (t440.size:Int)>600 then (some ((⟨#[]⟩:ByteArray),7)) else (if bt436.1=true then (c2_Digits.j1 k (q:Int) t440 (⟨#[]⟩:ByteArray) (t440.toList != ([48]:List UInt8))) else (c2_Digits.j1 k (q:Int) t440 (⟨#[]⟩:ByteArray) false))))) (fun k => ?_) ?_
      · simp only [c2_Digits.j0]
        rw [if_neg (by decide)]
      refine Ev.bind (read_ev a b x hx) ?_
      refine Ev.congr (f:=fun k=>(if ((T M).size:Int)>600 then (some ((⟨#[]⟩:ByteArray),7)) else (if (Fr x).1=true then (c2_Digits.j1 k (q:Int) (T M) (⟨#[]⟩:ByteArray) ((T M).toList != ([48]:List UInt8))) else (c2_Digits.j1 k (q:Int) (T M) (⟨#[]⟩:ByteArray) false)))) (fun k => ?_) ?_
      · have:c2_Steps.f (Fr x).1 (Fr x).2.1 (Fr x).2.2 (q:Int)=some (T M):=hst
        rw [this,Option.bind_some]
      by_cases hM:600<(T M).size
      · rw [if_pos hM]
        exact Ev.congr (fun k=>if_pos (by omega)) (Ev.now _)
      · rw [if_neg hM]
        refine Ev.congr (fun k=>if_neg (by omega)) ?_
        have hMp:=zbb M
        have hj1f:Ev (fun k=>c2_Digits.j1 k (q:Int) (T M) (⟨#[]⟩:ByteArray) false) (ptT (padT (T M) q) q,0):=by
          refine Ev.step (f:=fun k=>c2_Digits.j2 k (q:Int) (T M) (⟨#[]⟩:ByteArray)) (fun k => ?_) ?_
          · simp only [c2_Digits.j1]
            rw [if_neg (by decide)]
          · have h:=j2_ev q (T M) ⟨#[]⟩ hq (by omega) hMp (by decide)
            have e:(⟨#[]⟩:ByteArray)++ptT (padT (T M) q) q=ptT (padT (T M) q) q:=ByteArray.empty_append
            rw [e] at h
            exact h
        have hj1t:Ev (fun k=>c2_Digits.j1 k (q:Int) (T M) (⟨#[]⟩:ByteArray) true) ((⟨#[45]⟩:ByteArray)++ptT (padT (T M) q) q,0):=by
          refine Ev.step (f:=fun k=>c2_Digits.j2 k (q:Int) (T M) (⟨#[45]⟩:ByteArray)) (fun k => ?_) ?_
          · simp only [c2_Digits.j1]
            rw [if_pos trivial]
          · exact j2_ev q (T M) ⟨#[45]⟩ hq (by omega) hMp (by decide)
        have hs1:(Fr x).1=decide (x.num<0):=rfl
        unfold dgt
        rw [hab]
        by_cases hn:x.num<0
        · rw [decide_eq_true hn] at hE hs1
          refine Ev.congr (fun k=>if_pos hs1) ?_
          by_cases hm0:M=0
          · subst hm0
            have hb0:((T 0).toList != ([48]:List UInt8))=false:=by rw [b48.2 rfl]; rfl
            rw [hb0,if_neg (by rw [hE]; decide)]
            exact hj1f
          · have hb1:((T M).toList != ([48]:List UInt8))=true:=bne_iff_ne.2 (fun e=>hm0 (T_inj (b48.1 e)))
            rw [hb1,if_pos (by rw [hE]; simp [sgn]; omega)]
            exact hj1t
        · rw [decide_eq_false hn] at hE hs1
          refine Ev.congr (fun k=>if_neg (by rw [hs1]; decide)) ?_
          rw [if_neg (by rw [hE]; simp [sgn])]
          exact hj1f
  · have hc:coreB (spl a).1 (spl a).2 b=false:=by
      cases hcc:coreB (spl a).1 (spl a).2 b
      · rfl
      · exact absurd ((core_iff a b).1 hcc) he
    have hr:=right_ev a b
    rw [hc] at hr
    refine ⟨(⟨#[]⟩,3),?_,?_⟩
    · unfold rat_Digits.f; rw [dif_neg he]
    · unfold c2_Digits.f
      refine Ev.bind hr ?_
      exact Ev.congr (fun k=>if_neg (by decide)) (Ev.now _)
end Go.Proofs.ZQ
end
section
namespace Go.Proofs.ZP
open Go.RowKit Go.Proofs.ZW.Wa
def RowR (w:World) (A:Option Addr) (ps:List (ByteArray×ByteArray)):Prop:=
 ∀ j (h:j<ps.length),∃ b o,A=some ⟨b,o,none⟩∧b<w.heap.size∧w.cell? ⟨b,o+j*2,none⟩=some (.string ps[j].1)∧w.cell? ⟨b,o+j*2+1,none⟩=some (.string ps[j].2)
theorem RowR.below {w w':World} {A:Option Addr} {ps:List (ByteArray×ByteArray)} (h:RowR w A ps) (hb:Below w.heap.size w w'):RowR w' A ps:=fun j hj=>by
 obtain ⟨b,o,e,hl,h1,h2⟩:=h j hj
 have hs:=hb.size
 exact ⟨b,o,e,by omega,(hb.cell (p:=⟨b,o+j*2,none⟩) hl).trans h1,(hb.cell (p:=⟨b,o+j*2+1,none⟩) hl).trans h2⟩
def ptrs (n:Nat) (ds:List Nat):List Value:=ds.map (fun d=>Value.pointer (some ⟨d,0,none⟩))++List.replicate (n-ds.length) (.pointer none)
theorem zcr {n:Nat} {ds:List Nat} (h:ds.length≤n):(ptrs n ds).length=n:=by unfold ptrs; simp; omega
theorem ptrs_snoc {n:Nat} {ds:List Nat} (h:ds.length<n) (d:Nat):(ptrs n ds).take ds.length++([Value.pointer (some ⟨d,0,none⟩)]++(ptrs n ds).drop (ds.length+1))=ptrs n (ds ++ [d]):=by
 have hl:(ds.map (fun d=>Value.pointer (some ⟨d,0,none⟩))).length=ds.length:=by simp
 unfold ptrs
 rw [List.take_left' hl,List.drop_append,hl,show ds.length+1-ds.length=1 by omega,List.drop_of_length_le (by rw [hl]; omega),List.nil_append,List.drop_replicate]
 simp only [List.map_append,List.map_cons,List.map_nil,List.length_append,List.length_singleton,List.append_assoc]
 congr 3
theorem upd_setRow {w:World} {g:Nat} {cur new:Array Value} {t:TypeId} (hg:w.heap[g]? = some (.cells cur t (0,0))) (ht:t≠171) (hs:new.size=cur.size):Upd w (w.setRow g new) g 0 cur.size where
 os:=rfl
 tape:=rfl
 output:=rfl
 size:=by simp [World.setRow]
 other:=fun k _ hne=>setRow_other w g k new hne
 word:=fun k cs' hk=>setRow_other w g k new (by
  rintro rfl
  rw [hg] at hk
  injection hk with hk
  injection hk with _ hk
  exact ht hk)
 same:=fun cs' t' hk=>by
  rw [hg] at hk
  injection hk with hk
  injection hk with e1 e2
  subst e1; subst e2
  exact ⟨new,setRow_heap w g cur new t (0,0) hg,hs,fun i hi=>by
   rcases hi with hi|hi
   ·omega
   ·rw [Array.getElem?_eq_none (by omega),Array.getElem?_eq_none (by omega)]⟩
structure ASt (w wr:World) (g n:Nat) (X:Nat→Rat) (ds:List Nat):Prop where
 le:ds.length≤n
 blk:wr.heap[g]? = some (.cells (ptrs n ds).toArray 82 (0,0))
 at_:∀ j (h:j<ds.length),w.heap.size≤ds[j]∧g≠ds[j]∧RatAt wr ds[j] (X j)
 below:Below w.heap.size w wr
 ge:w.heap.size≤g
theorem ASt.below' {w wr w':World} {g n:Nat} {X:Nat→Rat} {ds:List Nat} (h:ASt w wr g n X ds) (hb:Below wr.heap.size wr w'):ASt w w' g n X ds where
 le:=h.le
 blk:=(hb.block _ (zar h.blk)).trans h.blk
 at_:=fun j hj=>by
  obtain ⟨h1,h2,h3⟩:=h.at_ j hj
  exact ⟨h1,h2,h3.below hb⟩
 below:=bthen h.below hb
 ge:=h.ge
theorem ASt.more {w wr:World} {g n:Nat} {X:Nat→Rat} {ds:List Nat} (h:ASt w wr g n X ds) (hl:ds.length<n) (d:Nat) (hd:w.heap.size≤d) (hne:g≠d) (hx:RatAt wr d (X ds.length)) :
  Hid (ASt w (wr.setRow g ((ptrs n ds).take ds.length++([Value.pointer (some ⟨d,0,none⟩)]++(ptrs n ds).drop (ds.length+1))).toArray) g n X (ds ++ [d])):=by
 rw [ptrs_snoc hl]
 have hu:=upd_setRow (new:=(ptrs n (ds ++ [d])).toArray) h.blk (by decide) (by
  simp only [List.size_toArray]
  rw [zcr (by simp; omega),zcr h.le])
 exact {
  le:=by simp; omega
  blk:=setRow_heap _ _ _ _ _ _ h.blk
  at_:=fun j hj=>by
   rw [List.length_append,List.length_singleton] at hj
   by_cases e:j<ds.length
   ·obtain ⟨h1,h2,h3⟩:=h.at_ j e
    rw [List.getElem_append_left e]
    exact ⟨h1,h2,h3.upd hu (fun e=>h2 e.symm)⟩
   ·have:j=ds.length:=by omega
    subst this
    rw [List.getElem_append_right (Nat.le_refl _)]
    simp only [Nat.sub_self,List.getElem_cons_zero]
    exact ⟨hd,hne,hx.upd hu (fun e=>hne e.symm)⟩
  below:=below_setRow h.below h.ge _
  ge:=h.ge }
theorem infoPR:(Tryz.prog.info? 82).map (fun i=>(i.zero,i.size,i.bytes))=some (some (.pointer none),1,8):=by kernel_rfl
theorem made_ptrs (n:Nat):madeCells #[Value.pointer none] n=(ptrs n []).toArray:=by
 unfold ptrs
 apply Array.ext
 ·simp [size_madeCells]
 ·intro i h1 h2
  simp [madeCells,Nat.mod_one]
theorem ASt.start (w:World) (n:Nat) (X:Nat→Rat):ASt w (w.alloc (.cells (madeCells #[Value.pointer none] n) 82)) w.heap.size n X [] where
 le:=Nat.zero_le _
 blk:=by rw [made_ptrs]; exact zay w _
 at_:=fun j hj=>by simp at hj
 below:=zaa (Below.refl _ _) _
 ge:=Nat.le_refl _
theorem all_yes (A:Option Addr) (c:Nat) (ps:List (ByteArray×ByteArray)) (X:Nat→Rat) (w:World) (hr:RowR w A ps) (hn:ps.length≤8796093022208) (hx:∀ j (h:j<ps.length),RR ps[j].1 ps[j].2 (X j)) :
  Calls Tryz.prog 119 #[.slice A ps.length c] w fun e w'=>∃ (g:Nat) (ds:List Nat),e = .returned (.slice (some ⟨g,0,none⟩) ps.length ps.length)∧ds.length=ps.length∧Hid (ASt w w' g ps.length X ds):=by
 have hmk:=zdf (P:=Tryz.prog) 120 82 (.pointer none) 8 Tryz.underlying120 infoPR rfl (by decide) ps.length (by omega)
 have HX:=Lib.hid hx
 have HR:=Lib.hid hr
 have HS0:=Lib.hid (ASt.start w ps.length X)
 clear hx hr
 go_enter Tryz.func119,Tryz.ntmps119
 go_wp2
 clear hmk
 generalize w.alloc (.cells (madeCells #[Value.pointer none] ps.length) 82)=W0 at *
 generalize hg:w.heap.size=g at HS0 ⊢
 have HG:=Lib.hid hg
 clear hg
 go_loopw [12] (fun vi wr=>∃ (i:Nat) (ds:List Nat),i≤ps.length∧vi = .int .i64 i∧Hid (ds.length=i)∧Hid (ASt w wr g ps.length X ds)) (fun vi _=>ps.length-(intOf vi).toNat)
 case atStart=>exact ⟨0,[],Nat.zero_le _,rfl,Lib.hid rfl,HS0⟩
 case round =>
  obtain ⟨i,ds,hi,rfl,HL,HS⟩:=hrel
  by_cases hin:i<ps.length
  ·obtain ⟨b,o,rfl,hlt,h1,h2⟩:=(RowR.below HR.out HS.out.below) i hin
   have hra:=fun W=>read_yes (X i) W (HX.out i hin).ln (HX.out i hin).ld
   rw [←(HX.out i hin).num,←(HX.out i hin).den] at hra
   go_wp2_with fail
   have hba:=zaa (Below.refl wr.heap.size wr) (.cells #[.string ps[i].1,.string ps[i].2] 23)
   generalize wr.alloc (.cells #[.string ps[i].1,.string ps[i].2] 23)=wa at *
   refine (hra _).mono ?_
   rintro e w1 ⟨d,rfl,hd,hx1,hb1⟩
   have hbb:=bthen hba hb1
   have HS1:=Lib.hid (HS.out.below' hbb)
   have hgl:=zar HS.out.blk
   have hsa:=hba.size
   have hge:=HS.out.ge
   have hgd:g≠d:=by omega
   have hwd:w.heap.size≤d:=by omega
   clear hbb hba hb1 h1 h2 hra hd hsa hge
   have hil:(i:Int)≤(ps.length:Int):=by omega
   have hbl:=zaa (Below.refl w1.heap.size w1) (.cells #[.pointer (some ⟨d,0,none⟩)] 82)
   have HS2:=HS1.out.below' hbl
   have hdl:=HL.out
   have hM:=HS2.more (by omega) d hwd hgd (by rw [hdl]; exact hx1.below hbl)
   have hcp:=run_copy_row (P:=Tryz.prog) (w1.alloc (.cells #[.pointer (some ⟨d,0,none⟩)] 82)) 120 120 3 82 g i (ps.length-i) (ps.length-i) ⟨w1.heap.size,0,none⟩ 1 1 (ptrs ps.length ds).toArray 82 [.pointer (some ⟨d,0,none⟩)] Tryz.underlying120 (by kernel_rfl) HS2.blk
    (by simp only [List.length_singleton]; exact (Nat.min_eq_left (by omega)).symm)
    (fun j v hj=>by
     rcases j with _|j
     ·simp only [List.getElem?_cons_zero,Option.some.injEq] at hj
      subst hj
      exact (zaf (zay w1 (.cells #[.pointer (some ⟨d,0,none⟩)] 82)) 0).trans rfl
     ·simp at hj)
    (by simp only [List.length_singleton,List.size_toArray]; rw [zcr HS2.le]; omega) (fun v hv=>by
     obtain rfl:=List.mem_singleton.1 hv
     rfl)
   simp only [List.length_singleton,List.append_assoc] at hcp
   rw [hdl] at hM
   generalize (w1.alloc (.cells #[.pointer (some ⟨d,0,none⟩)] 82)).setRow g _=w2 at hcp hM
   have HL2:=Lib.hid (show (ds ++ [d]).length=i+1 by rw [List.length_append,hdl]; rfl)
   clear hdl HS2 hbl hx1
   go_wp2
   go_roundw
   case rel=>exact ⟨i+1,ds ++ [d],by omega,by go_num,HL2,hM⟩
   case measure=>simp [intOf]; omega
  ·go_wp2
   go_ret
   exact ⟨g,ds,rfl,by have:=HL.out; omega,HS⟩
theorem all_no (A:Option Addr) (c:Nat) (ps:List (ByteArray×ByteArray)) (X:Nat→Rat) (m:Nat) (w:World) (hr:RowR w A ps) (hn:ps.length≤8796093022208) (hm:m<ps.length) (hx:∀ j (h:j<ps.length),j<m→RR ps[j].1 ps[j].2 (X j)) (hno:¬ ∃ x,RR ps[m].1 ps[m].2 x) :
  Calls Tryz.prog 119 #[.slice A ps.length c] w fun e w'=>e = .returned (.slice none 0 0)∧Below w.heap.size w w':=by
 have hmk:=zdf (P:=Tryz.prog) 120 82 (.pointer none) 8 Tryz.underlying120 infoPR rfl (by decide) ps.length (by omega)
 have HX:=Lib.hid hx
 have HNO:=fun W=>read_no _ _ W hno
 clear hno
 have HR:=Lib.hid hr
 have HS0:=Lib.hid (ASt.start w ps.length X)
 clear hx hr
 go_enter Tryz.func119,Tryz.ntmps119
 go_wp2
 clear hmk
 generalize w.alloc (.cells (madeCells #[Value.pointer none] ps.length) 82)=W0 at *
 generalize hg:w.heap.size=g at HS0 ⊢
 have HG:=Lib.hid hg
 clear hg
 go_loopw [12] (fun vi wr=>∃ (i:Nat) (ds:List Nat),i≤m∧vi = .int .i64 i∧Hid (ds.length=i)∧Hid (ASt w wr g ps.length X ds)) (fun vi _=>ps.length-(intOf vi).toNat)
 case atStart=>exact ⟨0,[],Nat.zero_le _,rfl,Lib.hid rfl,HS0⟩
 case round =>
  obtain ⟨i,ds,hi,rfl,HL,HS⟩:=hrel
  have hin:i<ps.length:=by omega
  by_cases him:i<m
  ·obtain ⟨b,o,rfl,hlt,h1,h2⟩:=(RowR.below HR.out HS.out.below) i hin
   have hra:=fun W=>read_yes (X i) W (HX.out i hin him).ln (HX.out i hin him).ld
   rw [←(HX.out i hin him).num,←(HX.out i hin him).den] at hra
   go_wp2_with fail
   have hba:=zaa (Below.refl wr.heap.size wr) (.cells #[.string ps[i].1,.string ps[i].2] 23)
   generalize wr.alloc (.cells #[.string ps[i].1,.string ps[i].2] 23)=wa at *
   refine (hra _).mono ?_
   rintro e w1 ⟨d,rfl,hd,hx1,hb1⟩
   have hbb:=bthen hba hb1
   have HS1:=Lib.hid (HS.out.below' hbb)
   have hgl:=zar HS.out.blk
   have hsa:=hba.size
   have hge:=HS.out.ge
   have hgd:g≠d:=by omega
   have hwd:w.heap.size≤d:=by omega
   clear hbb hba hb1 h1 h2 hra hd hsa hge
   have hil:(i:Int)≤(ps.length:Int):=by omega
   have hbl:=zaa (Below.refl w1.heap.size w1) (.cells #[.pointer (some ⟨d,0,none⟩)] 82)
   have HS2:=HS1.out.below' hbl
   have hdl:=HL.out
   have hM:=HS2.more (by omega) d hwd hgd (by rw [hdl]; exact hx1.below hbl)
   have hcp:=run_copy_row (P:=Tryz.prog) (w1.alloc (.cells #[.pointer (some ⟨d,0,none⟩)] 82)) 120 120 3 82 g i (ps.length-i) (ps.length-i) ⟨w1.heap.size,0,none⟩ 1 1 (ptrs ps.length ds).toArray 82 [.pointer (some ⟨d,0,none⟩)] Tryz.underlying120 (by kernel_rfl) HS2.blk
    (by simp only [List.length_singleton]; exact (Nat.min_eq_left (by omega)).symm)
    (fun j v hj=>by
     rcases j with _|j
     ·simp only [List.getElem?_cons_zero,Option.some.injEq] at hj
      subst hj
      exact (zaf (zay w1 (.cells #[.pointer (some ⟨d,0,none⟩)] 82)) 0).trans rfl
     ·simp at hj)
    (by simp only [List.length_singleton,List.size_toArray]; rw [zcr HS2.le]; omega) (fun v hv=>by
     obtain rfl:=List.mem_singleton.1 hv
     rfl)
   simp only [List.length_singleton,List.append_assoc] at hcp
   rw [hdl] at hM
   generalize (w1.alloc (.cells #[.pointer (some ⟨d,0,none⟩)] 82)).setRow g _=w2 at hcp hM
   have HL2:=Lib.hid (show (ds ++ [d]).length=i+1 by rw [List.length_append,hdl]; rfl)
   clear hdl HS2 hbl hx1
   go_wp2
   go_roundw
   case rel=>exact ⟨i+1,ds ++ [d],by omega,by go_num,HL2,hM⟩
   case measure=>simp [intOf]; omega
  ·obtain rfl:i=m:=by omega
   obtain ⟨b,o,rfl,hlt,h1,h2⟩:=(RowR.below HR.out HS.out.below) i hin
   go_wp2_with fail
   have hba:=zaa (Below.refl wr.heap.size wr) (.cells #[.string ps[i].1,.string ps[i].2] 23)
   generalize wr.alloc (.cells #[.string ps[i].1,.string ps[i].2] 23)=wa at *
   refine (HNO _).mono ?_
   rintro e w1 ⟨rfl,hb1⟩
   have hB:=bthen HS.out.below (bthen hba hb1)
   clear h1 h2 hba hb1
   go_wp2
   go_ret
   exact ⟨rfl,hB⟩
theorem rr_all (ps:List (ByteArray×ByteArray)):∃ X:Nat→Rat,(∀ j (h:j<ps.length),RR ps[j].1 ps[j].2 (X j))∨∃ m,∃ hm:m<ps.length,(∀ j (h:j<ps.length),j<m→RR ps[j].1 ps[j].2 (X j))∧¬ ∃ x,RR ps[m].1 ps[m].2 x:=by
 classical
 refine ⟨fun j=>if h:∃ x,∃ h:j<ps.length,RR ps[j].1 ps[j].2 x then h.choose else 0,?_⟩
 have hX:∀ j (h:j<ps.length),(∃ x,RR ps[j].1 ps[j].2 x)→RR ps[j].1 ps[j].2 (if h:∃ x,∃ h:j<ps.length,RR ps[j].1 ps[j].2 x then h.choose else 0):=fun j h ⟨x,hx⟩=>by
  have he:∃ x,∃ h:j<ps.length,RR ps[j].1 ps[j].2 x:=⟨x,h,hx⟩
  rw [dif_pos he]
  exact he.choose_spec.2
 by_cases hall:∀ j (h:j<ps.length),∃ x,RR ps[j].1 ps[j].2 x
 ·exact Or.inl fun j h=>hX j h (hall j h)
 ·right
  have hex:∃ m,∃ hm:m<ps.length,¬ ∃ x,RR ps[m].1 ps[m].2 x:=by
   apply Classical.byContradiction
   intro hn
   apply hall
   intro j h
   apply Classical.byContradiction
   intro hj
   exact hn ⟨j,h,hj⟩
  have hmin:∀ n,(∃ m,m≤n∧∃ hm:m<ps.length,¬ ∃ x,RR ps[m].1 ps[m].2 x)→∃ m,∃ hm:m<ps.length,(∀ j (h:j<ps.length),j<m→∃ x,RR ps[j].1 ps[j].2 x)∧¬ ∃ x,RR ps[m].1 ps[m].2 x:=by
   intro n
   induction n with
   | zero =>
    rintro ⟨m,hm0,hm,hno⟩
    exact ⟨m,hm,fun j _ hj=>by omega,hno⟩
   | succ n ih =>
    rintro ⟨m,hm0,hm,hno⟩
    by_cases hl:∃ m,m≤n∧∃ hm:m<ps.length,¬ ∃ x,RR ps[m].1 ps[m].2 x
    ·exact ih hl
    ·refine ⟨m,hm,fun j h hj => ?_,hno⟩
     apply Classical.byContradiction
     intro hj2
     exact hl ⟨j,by omega,h,hj2⟩
  obtain ⟨m0,h0⟩:=hex
  obtain ⟨m,hm,h1,h2⟩:=hmin m0 ⟨m0,Nat.le_refl _,h0⟩
  exact ⟨m,hm,fun j h hj=>hX j h (h1 j h hj),h2⟩
theorem row2 (W:World) (a0 a1 b0 b1:ByteArray):RowR (W.alloc (.cells #[.string a0,.string a1,.string b0,.string b1] 23)) (some ⟨W.heap.size,0,none⟩) [(a0,a1),(b0,b1)]:=fun j hj=>by
 have hb:=zay W (.cells #[.string a0,.string a1,.string b0,.string b1] 23)
 refine ⟨W.heap.size,0,rfl,zar hb,?_⟩
 rcases j with _|_|j
 ·exact ⟨(zaf hb 0).trans rfl,(zaf hb 1).trans rfl⟩
 ·exact ⟨(zaf hb 2).trans rfl,(zaf hb 3).trans rfl⟩
 ·simp at hj; omega
theorem two_start (w:World) (a0 a1 b0 b1:ByteArray):RowR ((((w.alloc (.cells #[.string a0,.string a1] 23)).alloc (.cells #[.string b0,.string b1] 23)).alloc (.cells #[.string ⟨#[]⟩,.string ⟨#[]⟩] 23)).alloc (.cells #[.string a0,.string a1,.string b0,.string b1] 23)) (some ⟨w.heap.size+1+1+1,0,none⟩) [(a0,a1),(b0,b1)] ∧
  ((((w.alloc (.cells #[.string a0,.string a1] 23)).alloc (.cells #[.string b0,.string b1] 23)).alloc (.cells #[.string ⟨#[]⟩,.string ⟨#[]⟩] 23)).alloc (.cells #[.string a0,.string a1,.string b0,.string b1] 23)).heap[w.heap.size+1+1]? = some (.cells #[.string ⟨#[]⟩,.string ⟨#[]⟩] 23 (0,0))∧Below w.heap.size w ((((w.alloc (.cells #[.string a0,.string a1] 23)).alloc (.cells #[.string b0,.string b1] 23)).alloc (.cells #[.string ⟨#[]⟩,.string ⟨#[]⟩] 23)).alloc (.cells #[.string a0,.string a1,.string b0,.string b1] 23)):=by
 have h1:=row2 (((w.alloc (.cells #[.string a0,.string a1] 23)).alloc (.cells #[.string b0,.string b1] 23)).alloc (.cells #[.string ⟨#[]⟩,.string ⟨#[]⟩] 23)) a0 a1 b0 b1
 have h2:=zay ((w.alloc (.cells #[.string a0,.string a1] 23)).alloc (.cells #[.string b0,.string b1] 23)) (.cells #[.string ⟨#[]⟩,.string ⟨#[]⟩] 23)
 have h3:=bthen (zaa (Below.refl w.heap.size w) (.cells #[.string a0,.string a1] 23)) (zaa (Below.refl _ _) (.cells #[.string b0,.string b1] 23))
 have h4:=zaa (Below.refl (((w.alloc (.cells #[.string a0,.string a1] 23)).alloc (.cells #[.string b0,.string b1] 23)).alloc (.cells #[.string ⟨#[]⟩,.string ⟨#[]⟩] 23)).heap.size (((w.alloc (.cells #[.string a0,.string a1] 23)).alloc (.cells #[.string b0,.string b1] 23)).alloc (.cells #[.string ⟨#[]⟩,.string ⟨#[]⟩] 23))) (.cells #[.string a0,.string a1,.string b0,.string b1] 23)
 simp only [World.size_alloc] at h1 h2
 refine ⟨h1,?_,bthen h3 (bthen (zaa (Below.refl _ _) _) h4)⟩
 rw [h4.block _ (by simp only [World.size_alloc]; omega)]
 exact h2
theorem two_no (a0 a1 b0 b1:ByteArray) (K:Nat) (caps:Array Value) (w:World) (h:¬ ((∃ x,RR a0 a1 x)∧∃ y,RR b0 b1 y)) :
  Calls Tryz.prog 121 #[.agg #[.string a0,.string a1],.agg #[.string b0,.string b1],.func (.func K) #[] caps] w fun e w'=>e = .returned (.tuple #[.agg #[.string ⟨#[]⟩,.string ⟨#[]⟩],.int .i64 3])∧Below w.heap.size w w':=by
 have HA:∀ (A:Option Addr) (c:Nat) (W:World),RowR W A [(a0,a1),(b0,b1)]→Calls Tryz.prog 119 #[.slice A 2 c] W fun e w'=>e = .returned (.slice none 0 0)∧Below W.heap.size W w':=fun A c W hr=>by
  obtain ⟨X,hX|⟨m,hm,h1,h2⟩⟩:=rr_all [(a0,a1),(b0,b1)]
  ·exact absurd ⟨⟨_,hX 0 (by simp)⟩,⟨_,hX 1 (by simp)⟩⟩ h
  ·exact all_no A c [(a0,a1),(b0,b1)] X m W hr (by simp) hm h1 h2
 clear h
 go_enter Tryz.func121,Tryz.ntmps121
 obtain ⟨hrow,hbk,hba⟩:=two_start w a0 a1 b0 b1
 have hnil:=fun (W:World) (a:Option Addr) (n c:Nat)=>Lib.run_eql_slice_nil (P:=Tryz.prog) W 120 82 a n c 0 0 Tryz.underlying120
 go_wp2_with fail
 generalize ((((w.alloc (.cells #[.string a0,.string a1] 23)).alloc (.cells #[.string b0,.string b1] 23)).alloc (.cells #[.string ⟨#[]⟩,.string ⟨#[]⟩] 23)).alloc (.cells #[.string a0,.string a1,.string b0,.string b1] 23))=W0 at *
 generalize w.heap.size+1+1+1=L at *
 generalize hBe:w.heap.size+1+1=B0 at *
 have HBE:=Lib.hid (show w.heap.size≤B0 by omega)
 clear hBe
 refine (HA _ _ _ hrow).mono ?_
 rintro e w1 ⟨rfl,hb1⟩
 have hbk2:=(hb1.block _ (zar hbk)).trans hbk
 have hB2:=bthen hba hb1
 have cB0:=(zaf hbk2 0).trans (show _=some (Value.string ⟨#[]⟩) from rfl)
 have cB1:=(zaf hbk2 1).trans (show _=some (Value.string ⟨#[]⟩) from rfl)
 have fB0:=zae hbk2 0
 have fB1:=zae hbk2 1
 have hs1:=zat hbk2 0 (.string ⟨#[]⟩)
 have hs2:=zat hs1 1 (.string ⟨#[]⟩)
 have HS2:=Lib.hid (hs2.trans (show _=some (Obj.cells #[.string ⟨#[]⟩,.string ⟨#[]⟩] 23 (0,0)) from rfl))
 have HBF:=Lib.hid (zag (zag (g:=B0) (j:=0) (v:=.string ⟨#[]⟩) hB2 HBE.out) (j:=1) (v:=.string ⟨#[]⟩) (g:=B0) HBE.out)
 clear hs1 hs2 hbk hbk2 hrow
 go_wp2
 refine bodyPost_ret (zbI rfl _ _ B0 23 #[.string ⟨#[]⟩,.string ⟨#[]⟩] (0,0) _ rfl HS2.out Tryz.underlying23 rfl (by kernel_rfl)) rfl ?_
 exact ⟨rfl,HBF.out⟩
theorem Upd.keepB {w w':World} {b lo hi:Nat} (h:Upd w w' b lo hi):KeepB w w' b:=⟨h.os,h.tape,h.output,h.size,h.other⟩
theorem KeepB.of_below {w w':World} (h:Below w.heap.size w w') (b:Nat):KeepB w w' b:=⟨h.os,h.tape,h.output,h.size,fun k hk _=>h.block k hk⟩
def TwoDo (K:Nat) (caps:Array Value) (w:World) (x y:Rat) (why:Int) (r:Rat):Prop:=
 ∀ (W:World) (z gx gy:Nat),Below w.heap.size w W→w.heap.size≤z→w.heap.size≤gx→w.heap.size≤gy→z≠gx→z≠gy→RatAt W z 0→RatAt W gx x→RatAt W gy y →
  Calls Tryz.prog K (#[.pointer (some ⟨z,0,none⟩),.pointer (some ⟨gx,0,none⟩),.pointer (some ⟨gy,0,none⟩)]++caps) W fun e w'=>e = .returned (.int .i64 why)∧(why=0→RatAt w' z r)∧KeepB W w' z
theorem two_yes (a0 a1 b0 b1:ByteArray) (x y:Rat) (K:Nat) (caps:Array Value) (why:Int) (r:Rat) {n:Nat} (w:World) (hE:Enters Tryz.prog K) (hx:RR a0 a1 x) (hy:RR b0 b1 y) (hd:TwoDo K caps w x y why r) (hs:why=0→Bdr n r) (hn:n≤big) :
  Calls Tryz.prog 121 #[.agg #[.string a0,.string a1],.agg #[.string b0,.string b1],.func (.func K) #[] caps] w fun e w'=>e = .returned (.tuple #[.agg #[.string (if why=0 then toldR r else (⟨#[]⟩,⟨#[]⟩,why)).1,.string (if why=0 then toldR r else (⟨#[]⟩,⟨#[]⟩,why)).2.1],.int .i64 (if why=0 then toldR r else (⟨#[]⟩,⟨#[]⟩,why)).2.2])∧Below w.heap.size w w':=by
 have HA:∀ (A:Option Addr) (c:Nat) (W:World),RowR W A [(a0,a1),(b0,b1)]→Calls Tryz.prog 119 #[.slice A 2 c] W fun e w'=>∃ (g:Nat) (ds:List Nat),e = .returned (.slice (some ⟨g,0,none⟩) 2 2)∧ds.length=2∧Hid (ASt W w' g 2 (fun j=>if j=0 then x else y) ds):=fun A c W hr=>by
  exact all_yes A c [(a0,a1),(b0,b1)] (fun j=>if j=0 then x else y) W hr (by simp) (fun j hj=>by
   rcases j with _|_|j
   ·exact hx
   ·exact hy
   ·simp at hj; omega)
 have HD:=Lib.hid hd
 have HE:=Lib.hid hE
 clear hx hy hd hE
 go_enter Tryz.func121,Tryz.ntmps121
 obtain ⟨hrow,hbk,hba⟩:=two_start w a0 a1 b0 b1
 have hnil:=fun (W:World) (a:Option Addr) (n c:Nat)=>Lib.run_eql_slice_nil (P:=Tryz.prog) W 120 82 a n c 0 0 Tryz.underlying120
 go_wp2_with fail
 generalize ((((w.alloc (.cells #[.string a0,.string a1] 23)).alloc (.cells #[.string b0,.string b1] 23)).alloc (.cells #[.string ⟨#[]⟩,.string ⟨#[]⟩] 23)).alloc (.cells #[.string a0,.string a1,.string b0,.string b1] 23))=W0 at *
 generalize w.heap.size+1+1+1=L at *
 generalize hBe:w.heap.size+1+1=B0 at *
 have HBE:=Lib.hid (show w.heap.size≤B0 by omega)
 clear hBe
 refine (HA _ _ _ hrow).mono ?_
 rintro e w1 ⟨g,ds,rfl,hdl,HS⟩
 obtain ⟨d0,d1,rfl⟩:∃ d0 d1,ds = [d0,d1]:=by
  rcases ds with _|⟨d0,_|⟨d1,_|⟨d2,t⟩⟩⟩
  ·simp at hdl
  ·simp at hdl
  ·exact ⟨d0,d1,rfl⟩
  ·simp at hdl
 obtain ⟨p1,p2,p3⟩:=HS.out.at_ 0 (by simp)
 obtain ⟨q1,q2,q3⟩:=HS.out.at_ 1 (by simp)
 simp only [List.getElem_cons_zero,List.getElem_cons_succ,if_true,if_false,Nat.one_ne_zero] at p1 p2 p3 q1 q2 q3
 have hblk:=HS.out.blk
 have hB1:=HS.out.below
 have hbk1:=(hB1.block _ (zar hbk)).trans hbk
 have hBw:=bthen hba hB1
 have hsz0:=hba.size
 have hBz:B0<w1.heap.size:=Nat.lt_of_lt_of_le (zar hbk) hB1.size
 have hlx:=p3.lt
 have hly:=q3.lt
 have hnew:=RatAt.new w1 112 (by decide)
 have hbz:=zaa (Below.refl w1.heap.size w1) (.cells #[.bool false,.slice none 0 0,.bool false,.slice none 0 0] 112)
 have hsz1:=hBw.size
 have hx2:=p3.below hbz
 have hy2:=q3.below hbz
 have hB2:=bthen hBw hbz
 have c0:=(zaf ((hbz.block _ (zar hblk)).trans hblk) 0).trans (show _=some (Value.pointer (some ⟨d0,0,none⟩)) from rfl)
 have c1:=(zaf ((hbz.block _ (zar hblk)).trans hblk) 1).trans (show _=some (Value.pointer (some ⟨d1,0,none⟩)) from rfl)
 have hbk2:=(hbz.block _ (zar hbk1)).trans hbk1
 clear hdl hrow hba hB1 hblk p3 q3 hBw hbk hbk1 hbz
 have hz0:w.heap.size≤w1.heap.size:=hsz1
 go_wp2_with fail
 generalize w1.alloc (.cells #[.bool false,.slice none 0 0,.bool false,.slice none 0 0] 112)=w2 at *
 generalize w1.heap.size=z at *
 go_still_tail 8,(by kernel_rfl)
 change wpList _ _ _ _ _ w2.drew
 have hbd:=zad w2
 have hx3:=hx2.below hbd
 have hy3:=hy2.below hbd
 have hB3:=bthen hB2 hbd
 have hz3:=hnew.below hbd
 have hbk3:=(hbd.block _ (zar hbk2)).trans hbk2
 clear hnew hx2 hy2 hB2 hbk2 hbd c0 c1
 generalize w2.drew=w3 at *
 have hE:=HE.out
 unfold Enters at hE
 go_wp2_with fail
 clear hE HE HA hnil
 have hz00:w.heap.size≤z:=hz0
 refine (HD.out _ _ _ _ hB3 (by omega) (by omega) (by omega) (by omega) (by omega) hz3 hx3 hy3).mono ?_
 rintro e w4 ⟨rfl,hz4,hk4⟩
 have hbk4:=(hk4.other _ (zar hbk3) (by omega)).trans hbk3
 have hB4:=KeepB.below hB3 hk4 hz00
 clear hk4 hz3 hx3 hy3 hB3 hbk3
 by_cases hw:why=0
 ·subst hw
  have hz5:=hz4 rfl
  have HBR:=Lib.hid (hs rfl)
  clear hz4 hs HD
  go_wp2_with fail
  refine (zci z r _ hz5 HBR.out hn).mono ?_
  rintro e w5 ⟨rfl,hb5⟩
  have hbk5:=(hb5.block _ (zar hbk4)).trans hbk4
  have hB5:=bthen hB4 hb5
  generalize htt:toldR r=tt
  have HTT:=Lib.hid htt
  clear htt
  have cB0:=(zaf hbk5 0).trans (show _=some (Value.string ⟨#[]⟩) from rfl)
  have cB1:=(zaf hbk5 1).trans (show _=some (Value.string ⟨#[]⟩) from rfl)
  have fB0:=zae hbk5 0
  have fB1:=zae hbk5 1
  have hs1:=zat hbk5 0 (.string tt.1)
  have hs2:=zat hs1 1 (.string tt.2.1)
  have HS2:=Lib.hid (hs2.trans (show _=some (Obj.cells #[.string tt.1,.string tt.2.1] 23 (0,0)) from rfl))
  have HBF:=Lib.hid (zag (zag (g:=B0) (j:=0) (v:=.string tt.1) hB5 HBE.out) (j:=1) (v:=.string tt.2.1) (g:=B0) HBE.out)
  clear hs1 hs2 hbk4 hbk5 hB4 hb5 hz5
  go_wp2
  refine bodyPost_ret (zbI rfl _ _ B0 23 #[.string tt.1,.string tt.2.1] (0,0) _ rfl HS2.out Tryz.underlying23 rfl (by kernel_rfl)) rfl ?_
  exact ⟨by first|(rw [HTT.out]; rfl)|(rw [if_pos rfl,HTT.out]; rfl),HBF.out⟩
 ·have HW:=Lib.hid hw
  have hne:(why == 0)=false:=beq_eq_false_iff_ne.2 hw
  clear hz4 hs HD
  have cB0:=(zaf hbk4 0).trans (show _=some (Value.string ⟨#[]⟩) from rfl)
  have cB1:=(zaf hbk4 1).trans (show _=some (Value.string ⟨#[]⟩) from rfl)
  have fB0:=zae hbk4 0
  have fB1:=zae hbk4 1
  have hs1:=zat hbk4 0 (.string ⟨#[]⟩)
  have hs2:=zat hs1 1 (.string ⟨#[]⟩)
  have HS2:=Lib.hid (hs2.trans (show _=some (Obj.cells #[.string ⟨#[]⟩,.string ⟨#[]⟩] 23 (0,0)) from rfl))
  have HBF:=Lib.hid (zag (zag (g:=B0) (j:=0) (v:=.string ⟨#[]⟩) hB4 HBE.out) (j:=1) (v:=.string ⟨#[]⟩) (g:=B0) HBE.out)
  clear hs1 hs2 hbk4
  go_wp2
  refine bodyPost_ret (zbI rfl _ _ B0 23 #[.string ⟨#[]⟩,.string ⟨#[]⟩] (0,0) _ rfl HS2.out Tryz.underlying23 rfl (by kernel_rfl)) rfl ?_
  exact ⟨by first|rfl|(simp only [if_neg HW.out]; rfl),HBF.out⟩
noncomputable def tell (why:Int) (r:Rat):ByteArray×ByteArray×Int:=if why=0 then toldR r else (⟨#[]⟩,⟨#[]⟩,why)
end Go.Proofs.ZP
end
section
namespace Go.Proofs.ZQ
open Go.RowKit Go.Proofs.ZW.Wa Go.Proofs.ZP
theorem rr_one {a b:ByteArray} {x y:Rat} (h:RR a b x) (k:RR a b y):x=y:=Rat.ext (wtext_inj (h.num.symm.trans k.num)) (T_inj (h.den.symm.trans k.den))
noncomputable def twoF (why:Rat→Rat→Int) (op:Rat→Rat→Rat) (a0 a1 b0 b1:ByteArray):Option (ByteArray×ByteArray×Int):=by
 classical exact if h:(∃ x,RR a0 a1 x)∧∃ y,RR b0 b1 y then some (tell (why h.1.choose h.2.choose) (op h.1.choose h.2.choose)) else some (⟨#[]⟩,⟨#[]⟩,3)
noncomputable def oneF (why:Rat→Int) (op:Rat→Rat) (a0 a1:ByteArray):Option (ByteArray×ByteArray×Int):=by
 classical exact if h:∃ x,RR a0 a1 x then some (tell (why h.choose) (op h.choose)) else some (⟨#[]⟩,⟨#[]⟩,3)
theorem twoF_yes {why:Rat→Rat→Int} {op:Rat→Rat→Rat} {a0 a1 b0 b1:ByteArray} {x y:Rat} (hx:RR a0 a1 x) (hy:RR b0 b1 y):twoF why op a0 a1 b0 b1=some (tell (why x y) (op x y)):=by
 have h:(∃ x,RR a0 a1 x)∧∃ y,RR b0 b1 y:=⟨⟨x,hx⟩,⟨y,hy⟩⟩
 unfold twoF
 rw [dif_pos h,←rr_one hx h.1.choose_spec,←rr_one hy h.2.choose_spec]
theorem twoF_no {why:Rat→Rat→Int} {op:Rat→Rat→Rat} {a0 a1 b0 b1:ByteArray} (h:¬ ((∃ x,RR a0 a1 x)∧∃ y,RR b0 b1 y)):twoF why op a0 a1 b0 b1=some (⟨#[]⟩,⟨#[]⟩,3):=by
 unfold twoF
 rw [dif_neg h]
def Says (f:FuncId) (args:Array Value) (w:World) (tt:ByteArray×ByteArray×Int):Prop:=
 Calls Tryz.prog f args w fun e w'=>e = .returned (.tuple #[.agg #[.string tt.1,.string tt.2.1],.int .i64 tt.2.2])∧Below w.heap.size w w'
theorem start2 (w:World) (a0 a1 b0 b1:ByteArray):(((w.alloc (.cells #[.string a0,.string a1] 23)).alloc (.cells #[.string b0,.string b1] 23)).alloc (.cells #[.string ⟨#[]⟩,.string ⟨#[]⟩] 23)).heap[w.heap.size+1+1]? = some (.cells #[.string ⟨#[]⟩,.string ⟨#[]⟩] 23 (0,0)) ∧
  Below w.heap.size w (((w.alloc (.cells #[.string a0,.string a1] 23)).alloc (.cells #[.string b0,.string b1] 23)).alloc (.cells #[.string ⟨#[]⟩,.string ⟨#[]⟩] 23)):=by
 refine ⟨?_,zaa (zaa (zaa (Below.refl _ _) _) _) _⟩
 have:=zay ((w.alloc (.cells #[.string a0,.string a1] 23)).alloc (.cells #[.string b0,.string b1] 23)) (.cells #[.string ⟨#[]⟩,.string ⟨#[]⟩] 23)
 simp only [World.size_alloc] at this
 exact this
noncomputable def rat_Add.f (a0_0 a0_1 a1_0 a1_1:ByteArray):Option (ByteArray×ByteArray×Int):=twoF (fun x y=>0) (fun x y=>x+y) a0_0 a0_1 a1_0 a1_1
noncomputable def rat_Sub.f (a0_0 a0_1 a1_0 a1_1:ByteArray):Option (ByteArray×ByteArray×Int):=twoF (fun x y=>0) (fun x y=>x-y) a0_0 a0_1 a1_0 a1_1
noncomputable def rat_Mul.f (a0_0 a0_1 a1_0 a1_1:ByteArray):Option (ByteArray×ByteArray×Int):=twoF (fun x y=>0) (fun x y=>x*y) a0_0 a0_1 a1_0 a1_1
noncomputable def rat_Neg.f (a0_0 a0_1:ByteArray):Option (ByteArray×ByteArray×Int):=oneF (fun x=>0) (fun x => -x) a0_0 a0_1
noncomputable def rat_Quo.f (a0_0 a0_1 a1_0 a1_1:ByteArray):Option (ByteArray×ByteArray×Int):=twoF (fun x y=>if y=0 then 8 else 0) (fun x y=>x/y) a0_0 a0_1 a1_0 a1_1
noncomputable def rat_Inv.f (a0_0 a0_1:ByteArray):Option (ByteArray×ByteArray×Int):=oneF (fun x=>if x=0 then 8 else 0) (fun x=>x⁻¹) a0_0 a0_1
end Go.Proofs.ZQ
end
