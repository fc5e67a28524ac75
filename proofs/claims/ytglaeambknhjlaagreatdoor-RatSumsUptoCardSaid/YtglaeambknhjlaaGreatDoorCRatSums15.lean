/- Texts under the proof, joined by a program (prune.py): QPure1, QPure2, Q139, Q140, Q141, QPure3, QRatB, QPlus. -/
import Derived.Test.YtglaeambknhjlaaGreatDoorCRatSums13
import Derived.Test.YtglaeambknhjlaaGreatDoorCRatSums09
import Derived.Test.YtglaeambknhjlaaGreatDoorCRatSums14
import Derived.Test.YtglaeambknhjlaaGreatDoorCRatSums11
import Derived.Test.YtglaeambknhjlaaGreatDoorCRatSums07
import Derived.Test.YtglaeambknhjlaaGreatDoorCRatSums12
set_option linter.unusedVariables false
set_option linter.unusedSimpArgs false
set_option exponentiation.threshold 20001
set_option maxHeartbeats 8000000
set_option maxRecDepth 100000
section
namespace Go.Proofs.ZQ
open Go.RowKit Go.Proofs.ZW.Wa Go.Proofs.ZP
def Fr (x:Rat):Bool×ByteArray×ByteArray:=(decide (x.num<0),T x.num.natAbs,T x.den)
theorem wtext_neg {x:Int} (h:x<0):wtext x=(⟨#[45]⟩:ByteArray)++T x.natAbs:=by
 refine (zay (zaN h)).trans (zay ?_).symm
 simp
theorem told_ev (x:Rat):Ev (fun k=>c2_Told.f k (Fr x).1 (Fr x).2.1 (Fr x).2.2) (toldR x):=by
 have s1:=zax (n:=x.num.natAbs) (k:=600) (by decide)
 have s2:=zax (n:=x.den) (k:=600) (by decide)
 unfold c2_Told.f
 show Ev (fun k=>if ((T x.num.natAbs).size:Int)>600 then _ else _) _
 by_cases h1:((T x.num.natAbs).size:Int)>600
 ·refine Ev.congr (fun k=>if_pos h1) (Ev.step (f:=fun _=>some (⟨#[]⟩,⟨#[]⟩,7)) (fun k => ?_) ?_)
  ·simp only [c2_Told.j0]
   rw [if_pos trivial]
  ·have:toldR x=(⟨#[]⟩,⟨#[]⟩,7):=if_neg (fun h=>by have:=s1.2 h.1; omega)
   rw [this]; exact Ev.now _
 ·refine Ev.congr (fun k=>if_neg h1) ?_
  by_cases h2:((T x.den).size:Int)>600
  ·refine Ev.step (f:=fun _=>some (⟨#[]⟩,⟨#[]⟩,7)) (fun k => ?_) ?_
   ·show c2_Told.j0 (k+1) (decide (((T x.den).size:Int)>600)) _ _ _=_
    rw [decide_eq_true h2]
    simp only [c2_Told.j0]
    rw [if_pos trivial]
   ·have:toldR x=(⟨#[]⟩,⟨#[]⟩,7):=if_neg (fun h=>by have:=s2.2 h.2; omega)
    rw [this]; exact Ev.now _
  ·have ht:toldR x=(wtext x.num,T x.den,0):=if_pos ⟨s1.1 (by omega),s2.1 (by omega)⟩
   rw [ht]
   refine Ev.step (f:=fun _=>some (wtext x.num,T x.den,0)) (fun k => ?_) (Ev.now _)
   show c2_Told.j0 (k+1) (decide (((T x.den).size:Int)>600)) (decide (x.num<0)) (T x.num.natAbs) (T x.den)=_
   rw [decide_eq_false h2]
   simp only [c2_Told.j0]
   rw [if_neg (by decide)]
   by_cases hn:x.num<0
   ·rw [if_pos (decide_eq_true hn),if_pos (by omega),wtext_neg hn]
   ·rw [if_neg (by simpa using hn),zaU (by omega)]
theorem T_1:(⟨#[49]⟩:ByteArray)=T 1:=T_one.symm
theorem T_0:(⟨#[48]⟩:ByteArray)=T 0:=T_zero.symm
theorem fr_of (s:Bool) (a b:Nat) (hb:0<b):Fr (Rat.divInt (sgn s a) b)=(s && decide (a≠0),T (a/Nat.gcd a b),T (b/Nat.gcd a b)):=by
 obtain ⟨h1,h2,h3⟩:=zdi s a b hb
 unfold Fr
 rw [h1,h2,h3]
theorem lowest_T (s:Bool) (a b:Nat) (hb:0<b) (ha:(T a).size≤137438953472) (hbs:(T b).size≤137438953472):c2_Lowest.f s (T a) (T b)=some (Fr (Rat.divInt (sgn s a) b)):=by
 unfold c2_Lowest.f
 rw [fr_of s a b hb]
 by_cases h0:a=0
 ·subst h0
  rw [if_pos (T_is0.2 rfl),T_0,T_1]
  have:b/Nat.gcd 0 b=1:=by rw [Nat.gcd_zero_left]; exact Nat.div_self hb
  rw [this,Nat.zero_div]
  simp
 ·have hg:0<Nat.gcd a b:=Nat.gcd_pos_of_pos_right _ hb
  have hgs:(T (Nat.gcd a b)).size≤137438953472:=Nat.le_trans (za3 (Nat.le_of_dvd hb (Nat.gcd_dvd_right a b))) hbs
  rw [if_neg (fun e=>h0 (T_is0.1 e)),Common_T ha hbs,Option.bind_some,Divide_T ha hgs hg,Option.bind_some,Divide_T hbs hgs hg,Option.bind_some]
  rw [decide_eq_true h0,Bool.and_true]
def spl (a:ByteArray):Bool×ByteArray:=if a.data.toList.head? = some 45 then (true,a.extract 1 a.size) else (false,a)
theorem spl_wtext (s:Bool) (m:Nat) (h:s=true→m≠0):spl (wtext (sgn s m))=(s,T m):=by
 have hz:sgn s m=0→s=false:=fun e=>by
  cases s
  ·rfl
  ·have:=h rfl
   simp [sgn] at e
   omega
 unfold spl
 cases s
 ·have:wtext (sgn false m)=T m:=by rw [zaU (by simp [sgn]),zcU]
  rw [this,if_neg ?_]
  intro e
  rcases hd:(T m).data.toList with _|⟨c,t⟩
  ·rw [hd] at e; simp at e
  ·rw [hd] at e
   injection e with e
   subst e
   exact zcF m t hd
 ·have hneg:sgn true m<0:=by have:=h rfl; simp [sgn]; omega
  have hw:=zaN hneg
  rw [zcU] at hw
  have e:(wtext (sgn true m)).extract 1 (wtext (sgn true m)).size=T m:=by
   refine (zay ?_).trans (zay rfl).symm
   rw [ByteArray.data_extract,Array.toList_extract,List.extract_eq_take_drop,←zaq,hw,List.length_cons,List.drop_succ_cons,List.drop_zero,Nat.add_sub_cancel,List.take_length]
  rw [hw,List.head?_cons,if_pos rfl,e]
theorem spl_neg {a:ByteArray} (h:(spl a).1=true):a=(⟨#[45]⟩:ByteArray)++(spl a).2∧(spl a).2=a.extract 1 a.size:=by
 unfold spl at h ⊢
 split at h
 ·rename_i hh
  rw [if_pos hh]
  refine ⟨?_,rfl⟩
  rcases hd:a.data.toList with _|⟨c,t⟩
  ·rw [hd] at hh; simp at hh
  ·rw [hd] at hh
   injection hh with hh
   subst hh
   refine (zay hd).trans (zay ?_).symm
   rw [ByteArray.data_append,Array.toList_append,ByteArray.data_extract,Array.toList_extract,List.extract_eq_take_drop,hd,←zaq,hd]
   simp
 ·cases h
theorem spl_pos {a:ByteArray} (h:(spl a).1=false):(spl a).2=a:=by
 unfold spl at h ⊢
 split at h
 ·cases h
 ·rename_i hh; rw [if_neg hh]
theorem rr_iff (a b:ByteArray) (x:Rat):RR a b x↔∃ m n:Nat,(spl a).2=T m∧b=T n∧m<10^600∧n<10^600∧0<n∧Nat.gcd m n=1∧((spl a).1=true→m≠0)∧x=Rat.divInt (sgn (spl a).1 m) n:=by
 constructor
 ·intro h
  have hs:spl a=(decide (x.num<0),T x.num.natAbs):=by
   rw [h.num]
   conv=>lhs; rw [←zcN x.num]
   exact spl_wtext _ _ (fun e=>by have:=of_decide_eq_true e; omega)
  rw [hs]
  refine ⟨x.num.natAbs,x.den,rfl,h.den,h.ln,h.ld,x.den_pos,x.reduced,fun e=>by have:=of_decide_eq_true e; omega,?_⟩
  show x=Rat.divInt (sgn (decide (x.num<0)) x.num.natAbs) x.den
  rw [zcN,zbH]
 ·rintro ⟨m,n,h1,h2,h3,h4,h5,h6,h7,h8⟩
  obtain ⟨f1,f2,f3⟩:=zdi (spl a).1 m n h5
  rw [h6,Nat.div_one] at f1 f2
  rw [←h8] at f1 f2 f3
  have hnum:x.num=sgn (spl a).1 m:=by
   rw [←zcN x.num,f1,f3]
   cases hs:(spl a).1
   ·rfl
   ·rw [decide_eq_true (h7 hs)]; rfl
  refine ⟨?_,by rw [f2]; exact h2,by rw [f1]; exact h3,by rw [f2]; exact h4⟩
  rw [hnum]
  cases hs:(spl a).1
  ·rw [zaU (by simp [sgn]),zcU,←h1]; exact (spl_pos hs).symm
  ·rw [wtext_neg (by have:=h7 hs; simp [sgn]; omega),zcU,←h1]; exact (spl_neg hs).1
def coreB (neg:Bool) (t b:ByteArray):Bool:=rightB t && rightB b && decide (b≠T 0) && decide (neg=true→t≠T 0) && decide (Nat.gcd (dval t.data.toList) (dval b.data.toList)=1)
theorem core_iff (a b:ByteArray):coreB (spl a).1 (spl a).2 b=true↔∃ x,RR a b x:=by
 unfold coreB
 simp only [Bool.and_eq_true,decide_eq_true_eq]
 constructor
 ·rintro ⟨⟨⟨⟨h1,h2⟩,h3⟩,h4⟩,h5⟩
  obtain ⟨m,hm,hm2⟩:=right_iff.1 h1
  obtain ⟨n,hn,hn2⟩:=right_iff.1 h2
  rw [hm,hn,zbF,zbF] at h5
  refine ⟨_,(rr_iff a b _).2 ⟨m,n,hm,hn,hm2,hn2,?_,h5,fun e => ?_,rfl⟩⟩
  ·rcases Nat.eq_zero_or_pos n with h0|h0
   ·subst h0; exact absurd hn h3
   ·exact h0
  ·intro h0; subst h0; exact h4 e hm
 ·rintro ⟨x,hx⟩
  obtain ⟨m,n,h1,h2,h3,h4,h5,h6,h7,h8⟩:=(rr_iff a b x).1 hx
  rw [h1,h2,zbF,zbF]
  exact ⟨⟨⟨⟨right_iff.2 ⟨m,rfl,h3⟩,right_iff.2 ⟨n,rfl,h4⟩⟩,fun e=>by have:=T_inj e; omega⟩,fun e e2=>h7 e (T_inj e2)⟩,h6⟩
theorem b48 {s:ByteArray}:s.toList=([48]:List UInt8)↔s=T 0:=by
 rw [ba_toList]
 constructor
 ·intro h; rw [T_zero]; exact zay h
 ·rintro rfl; rw [T_zero]
theorem b49 {s:ByteArray}:(s.toList == ([49]:List UInt8))=decide (s=T 1):=by
 rw [Bool.eq_iff_iff,beq_iff_eq,decide_eq_true_eq,ba_toList]
 constructor
 ·intro h; rw [T_one]; exact zay h
 ·rintro rfl; rw [T_one]
theorem right_core (t b:ByteArray) (neg:Bool) (h:neg=true→t≠T 0):((c1_Right.f t).bind fun t410=>(if t410=true then ((c1_Right.f b).bind fun t411=>(if t411=true then (if b.toList=([48]:List UInt8) then (some false) else ((c1_Common.f t b).bind fun t412=>(some (t412.toList == ([49]:List UInt8))))) else (some false))) else (some false)))=some (coreB neg t b):=by
 unfold c1_Right.f coreB
 rw [Option.bind_some,Option.bind_some]
 cases h1:rightB t
 ·rw [if_neg (by decide)]; simp
 ·rw [if_pos rfl]
  cases h2:rightB b
  ·rw [if_neg (by decide)]; simp
  ·obtain ⟨m,rfl,hm2⟩:=right_iff.1 h1
   obtain ⟨n,rfl,hn2⟩:=right_iff.1 h2
   have sm:=(zax (k:=600) (by decide)).2 hm2
   have sn:=(zax (k:=600) (by decide)).2 hn2
   rw [if_pos rfl]
   by_cases h3:T n=T 0
   ·rw [if_pos (b48.2 h3)]; simp [h3]
   ·rw [if_neg (fun e=>h3 (b48.1 e)),Common_T (by omega) (by omega),Option.bind_some,b49,zbF,zbF]
    have e1:(T (Nat.gcd m n)=T 1)↔Nat.gcd m n=1:=T_eq_iff
    by_cases hn:neg=true
    ·have h4:=h hn
     simp [h3,h4,e1]
    ·simp [h3,hn,e1]
theorem bt0 {s:ByteArray} (h:0<s.size):(bt s 0 == 45)=(spl s).1:=by
 have hl:0<s.data.toList.length:=by rw [zaq]; exact h
 have hb:=bt_nth s hl
 have hb':bt s 0=(s.data.toList[0].toNat:Int):=hb
 have hh:s.data.toList.head? = some s.data.toList[0]:=by rw [List.head?_eq_getElem?,List.getElem?_eq_getElem hl]
 unfold spl
 rw [hh,hb']
 by_cases hc:s.data.toList[0]=45
 ·rw [hc,if_pos rfl]; rfl
 ·rw [if_neg (fun e=>hc (Option.some.inj e))]
  have:(s.data.toList[0].toNat:Int)≠45:=fun e=>hc (UInt8.toNat_inj.1 (by
   have h2:(45:UInt8).toNat=45:=rfl
   omega))
  exact beq_eq_false_iff_ne.2 this
theorem spl_empty {s:ByteArray} (h:s.toList=([]:List UInt8)):spl s=(false,s):=by
 unfold spl
 rw [ba_toList] at h
 rw [h,if_neg (by simp)]
theorem size_pos_of {s:ByteArray} (h:¬ s.toList=([]:List UInt8)):0<s.size:=by
 rw [ba_toList] at h
 rw [←zaq]
 exact List.length_pos_iff.2 h
theorem right_j (a b:ByteArray):Ev (fun k=>c2_Right.j0 k a (spl a).1 a b) (coreB (spl a).1 (spl a).2 b):=by
 refine Ev.step (f:=fun _=>some (coreB (spl a).1 (spl a).2 b)) (fun k => ?_) (Ev.now _)
 simp only [c2_Right.j0]
 cases hs:(spl a).1
 ·rw [if_neg (by decide),spl_pos hs]
  exact right_core a b false (fun e=>by cases e)
 ·obtain ⟨e1,e2⟩:=spl_neg hs
  have hsz:1≤(a.size:Int):=by
   have:a.size=1+(spl a).2.size:=by
    have h:=congrArg ByteArray.size e1
    rw [ByteArray.size_append] at h
    exact h
   omega
  rw [if_pos rfl,if_pos hsz,←e2]
  by_cases h0:(spl a).2=T 0
  ·rw [if_pos (b48.2 h0)]
   unfold coreB
   rw [h0]; simp
  ·rw [if_neg (fun e=>h0 (b48.1 e))]
   exact right_core _ b true (fun _=>h0)
theorem right_ev (a b:ByteArray):Ev (fun k=>c2_Right.f k a b) (coreB (spl a).1 (spl a).2 b):=by
 unfold c2_Right.f
 by_cases h:a.toList=([]:List UInt8)
 ·refine Ev.congr (fun k=>if_pos h) ?_
  have:=right_j a b
  rw [spl_empty h] at this ⊢
  exact this
 ·have hp:=size_pos_of h
  refine Ev.congr (fun k=>(if_neg h).trans (if_pos (by omega))) ?_
  rw [bt0 hp]
  exact right_j a b
theorem fr_int (n:Int):Fr (Rat.divInt n 1)=(decide (n<0),T n.natAbs,T 1):=by
 have h:=fr_of (decide (n<0)) n.natAbs 1 (by decide)
 rw [zcN,Nat.gcd_one_right,Nat.div_one,Nat.div_one] at h
 refine h.trans ?_
 by_cases hn:n<0
 ·rw [decide_eq_true hn,decide_eq_true (show n.natAbs≠0 by omega)]; rfl
 ·rw [decide_eq_false hn]; rfl
theorem whole_f (n:Int) (h0 : -9223372036854775808≤n) (h1:n<9223372036854775808):c2_Whole.f n=some (Fr (Rat.divInt n 1)):=by
 rw [fr_int]
 unfold c2_Whole.f c1_Of.f
 by_cases hn:n<0
 ·have e:IntKind.u64.wrap ((IntKind.u64.wrap (wrap64 (-(wrap64 (n+1)))))+1)=(n.natAbs:Int):=by
   have e1:wrap64 (n+1)=n+1:=by unfold wrap64; omega
   have e2:wrap64 (-(n+1)) = -(n+1):=by unfold wrap64; omega
   rw [e1,e2]
   have e3:IntKind.u64.wrap (-(n+1)) = -(n+1):=u64w (by omega) (by omega)
   rw [e3,u64w (by omega) (by omega)]; omega
  rw [if_pos hn,e,if_pos (by omega),Option.bind_some,Int.toNat_natCast,decide_eq_true hn,T_1]
 ·rw [if_neg hn,u64w (by omega) (by omega),if_pos (by omega),Option.bind_some,decide_eq_false hn,T_1]
  have:n.toNat=n.natAbs:=by omega
  rw [this]
theorem told_int (n:Int) (h0 : -9223372036854775808≤n) (h1:n<9223372036854775808):toldR (Rat.divInt n 1)=(wtext n,⟨#[49]⟩,0):=by
 have hf:=fr_int n
 unfold Fr at hf
 have e1:(Rat.divInt n 1).num=n:=by rw [Rat.num_divInt]; simp
 have e2:(Rat.divInt n 1).den=1:=by rw [Rat.den_divInt]; simp
 unfold toldR
 have hs:Sm (Rat.divInt n 1):=by
  unfold Sm
  rw [e1,e2]
  have h:(10:Nat)^20≤10^600:=Nat.pow_le_pow_right (by decide) (by decide)
  have h2:n.natAbs<10^20:=by
   have:(10:Nat)^20=100000000000000000000:=by decide
   omega
  have h3:1<(10:Nat)^20:=by decide
  exact ⟨Nat.lt_of_lt_of_le h2 h,Nat.lt_of_lt_of_le h3 h⟩
 rw [if_pos hs,e1,e2,T_one]
theorem of_ev (n:Int) (h0 : -9223372036854775808≤n) (h1:n<9223372036854775808):Ev (fun k=>c2_Of.f k n) (wtext n,⟨#[49]⟩):=by
 unfold c2_Of.f
 rw [whole_f n h0 h1]
 refine Ev.congr (f:=fun k=>(c2_Told.f k (Fr (Rat.divInt n 1)).1 (Fr (Rat.divInt n 1)).2.1 (Fr (Rat.divInt n 1)).2.2).bind fun bt578=>(some (bt578.1,bt578.2.1))) (fun k=>rfl) ?_
 have h:=told_ev (Rat.divInt n 1)
 rw [told_int n h0 h1] at h
 exact Ev.bind h (Ev.now _)
end Go.Proofs.ZQ
end
section
namespace Go.Proofs.ZQ
open Go.RowKit Go.Proofs.ZW.Wa Go.Proofs.ZW.Wb Go.Proofs.ZW.Wc
attribute [local go_sem] zaI zaG zaS zaR zaB zaA zaH zaF
noncomputable def c2_Near.f (a0:ByteArray) (a1:ByteArray):Option (ByteArray):=(c1_Divide.f a0 a1).bind fun bt421=>((c1_Times.f bt421.2 (⟨#[50]⟩:ByteArray)).bind fun t423=>((c1_Compare.f t423 a1).bind fun t424=>(if t424>0 then ((c1_Plus.f bt421.1 (⟨#[49]⟩:ByteArray)).bind fun t425=>(some t425)) else (if t424=0 then (if 0≤(wrap64 ((bt421.1.size:Int)-1)) then (if (wrap64 ((bt421.1.size:Int)-1))<(bt421.1.size:Int) then (if ((((bt bt421.1 (wrap64 ((bt421.1.size:Int)-1)))-48)%256)%2)=1 then ((c1_Plus.f bt421.1 (⟨#[49]⟩:ByteArray)).bind fun t426=>(some t426)) else (some bt421.1)) else (none)) else (none)) else (some bt421.1)))))
noncomputable def c2_Steps.f (a0_0:Bool) (a0_1:ByteArray) (a0_2:ByteArray) (a1:Int):Option (ByteArray):=if a1≥0 then ((c2_Zeros.f a1).bind fun t428=>(if 1+t428.size≤9223372036854775807 then ((c1_Times.f a0_1 ((⟨#[49]⟩:ByteArray)++t428)).bind fun t429=>((c2_Near.f t429 a0_2).bind fun t430=>(some t430))) else (none))) else ((c2_Zeros.f (wrap64 (-a1))).bind fun t431=>(if 1+t431.size≤9223372036854775807 then ((c1_Times.f a0_2 ((⟨#[49]⟩:ByteArray)++t431)).bind fun t432=>((c2_Near.f a0_1 t432).bind fun t433=>(some t433))) else (none)))
noncomputable def c2_Steps.B2:List Nat:=[0,1,0,4,12,31,0,64,255,511]
mutual
noncomputable def c2_Digits.j0:Nat→Int→Bool→ByteArray→ByteArray→Option (ByteArray×Int)
 | 0,_,_,_,_=>none
 | k+1,x1,x17,x435000,x435001=>if x17=true then (some ((⟨#[]⟩:ByteArray),1)) else ((c2_Read.f k x435000 x435001).bind fun bt436=>((c2_Steps.f bt436.1 bt436.2.1 bt436.2.2 x1).bind fun t440=>(if (t440.size:Int)>600 then (some ((⟨#[]⟩:ByteArray),7)) else (if bt436.1=true then (c2_Digits.j1 k x1 t440 (⟨#[]⟩:ByteArray) (t440.toList != ([48]:List UInt8))) else (c2_Digits.j1 k x1 t440 (⟨#[]⟩:ByteArray) false)))))
noncomputable def c2_Digits.j1:Nat→Int→ByteArray→ByteArray→Bool→Option (ByteArray×Int)
 | 0,_,_,_,_=>none
 | k+1,x1,x7,x8,x31=>if x31=true then (c2_Digits.j2 k x1 x7 (⟨#[45]⟩:ByteArray)) else (c2_Digits.j2 k x1 x7 x8)
noncomputable def c2_Digits.j2:Nat→Int→ByteArray→ByteArray→Option (ByteArray×Int)
 | 0,_,_,_=>none
 | k+1,x1,x7,x8=>if (x7.size:Int)≤x1 then ((c2_Zeros.f (wrap64 ((wrap64 (x1+1))-(x7.size:Int)))).bind fun t441=>(if t441.size+x7.size≤9223372036854775807 then (if x1=0 then (if x8.size+(t441++x7).size≤9223372036854775807 then (some (x8++(t441++x7),0)) else (none)) else (if 0≤(wrap64 (((t441++x7).size:Int)-x1)) then (if (wrap64 (((t441++x7).size:Int)-x1))≤((t441++x7).size:Int) then (if x8.size+((t441++x7).extract 0 ((wrap64 (((t441++x7).size:Int)-x1)):Int).toNat).size≤9223372036854775807 then (if (x8++((t441++x7).extract 0 ((wrap64 (((t441++x7).size:Int)-x1)):Int).toNat)).size+1≤9223372036854775807 then (if ((x8++((t441++x7).extract 0 ((wrap64 (((t441++x7).size:Int)-x1)):Int).toNat))++(⟨#[46]⟩:ByteArray)).size+((t441++x7).extract ((wrap64 (((t441++x7).size:Int)-x1)):Int).toNat (t441++x7).size).size≤9223372036854775807 then (some (((x8++((t441++x7).extract 0 ((wrap64 (((t441++x7).size:Int)-x1)):Int).toNat))++(⟨#[46]⟩:ByteArray))++((t441++x7).extract ((wrap64 (((t441++x7).size:Int)-x1)):Int).toNat (t441++x7).size),0)) else (none)) else (none)) else (none)) else (none)) else (none))) else (none))) else (if x1=0 then (if x8.size+x7.size≤9223372036854775807 then (some (x8++x7,0)) else (none)) else (if 0≤(wrap64 ((x7.size:Int)-x1)) then (if (wrap64 ((x7.size:Int)-x1))≤(x7.size:Int) then (if x8.size+(x7.extract 0 ((wrap64 ((x7.size:Int)-x1)):Int).toNat).size≤9223372036854775807 then (if (x8++(x7.extract 0 ((wrap64 ((x7.size:Int)-x1)):Int).toNat)).size+1≤9223372036854775807 then (if ((x8++(x7.extract 0 ((wrap64 ((x7.size:Int)-x1)):Int).toNat))++(⟨#[46]⟩:ByteArray)).size+(x7.extract ((wrap64 ((x7.size:Int)-x1)):Int).toNat x7.size).size≤9223372036854775807 then (some (((x8++(x7.extract 0 ((wrap64 ((x7.size:Int)-x1)):Int).toNat))++(⟨#[46]⟩:ByteArray))++(x7.extract ((wrap64 ((x7.size:Int)-x1)):Int).toNat x7.size),0)) else (none)) else (none)) else (none)) else (none)) else (none)))
end
noncomputable def c2_Digits.f (k:Nat) (a0_0:ByteArray) (a0_1:ByteArray) (a1:Int):Option (ByteArray×Int):=(c2_Right.f k a0_0 a0_1).bind fun t435=>(if t435=true then (if a1<0 then (c2_Digits.j0 k a1 true a0_0 a0_1) else (c2_Digits.j0 k a1 (decide (a1>600)) a0_0 a0_1)) else (some ((⟨#[]⟩:ByteArray),3)))
end Go.Proofs.ZQ
end
section
namespace Go.Proofs.ZQ
open Go.RowKit Go.Proofs.ZW.Wa Go.Proofs.ZP
theorem dval_zeros (k:Nat):dval (List.replicate k (48:UInt8))=0:=by
  induction k with
  | zero=>rfl
  | succ k ih=>rw [List.replicate_succ,zbU,ih]; simp
theorem T_ten (p:Nat):(⟨#[49]⟩:ByteArray)++ZP.zer p=T (10^p):=by
  have hd:((⟨#[49]⟩:ByteArray)++ZP.zer p).data.toList=49 :: List.replicate p (48:UInt8):=by
    rw [ByteArray.data_append,Array.toList_append]; simp [ZP.zer]
  refine (can_T ?_).trans (congrArg T ?_)
  · rw [hd]
    refine ⟨by simp,?_,fun e=>by simp at e⟩
    intro c hc
    rcases List.mem_cons.1 hc with rfl|hc
    · decide
    · rw [(List.mem_replicate.1 hc).2]; decide
  · rw [hd,zbU,dval_zeros,List.length_replicate]
    show (49-48)*10^p+0=_
    omega
theorem zer_sz (k:Nat):(ZP.zer k).size=k:=by show (List.replicate k (48:UInt8)).toArray.size=k; simp
theorem T_ten_size (p:Nat):(T (10^p)).size=p+1:=by
  rw [←T_ten,ByteArray.size_append,zer_sz]; show 1+p=_; omega
theorem T_last (n : Nat) : 0 < (T n).size ∧ bt (T n) (((T n).size : Int) - 1) = (48 + n % 10 : Nat) := by
  have hp:=zbb n
  refine ⟨hp,?_⟩
  have hl:(T n).size-1<(T n).data.toList.length:=by rw [zaq]; omega
  have e:((T n).size:Int)-1=(((T n).size-1:Nat):Int):=by omega
  rw [e,bt_nth _ hl]
  congr 1
  have hg:∀ (l:List UInt8) (h:l.length-1<l.length),l[l.length-1]=l.getLast (fun e=>by rw [e] at h; cases h):=fun l h=>(List.getLast_eq_getElem _).symm
  have h2:(T n).data.toList.length-1<(T n).data.toList.length:=by rw [zaq]; omega
  have e2:(T n).data.toList[(T n).size-1]=(T n).data.toList[(T n).data.toList.length-1]:=by
    congr 1
  rw [e2,hg _ h2]
  have hd:(T n).data.toList=decl n:=T_data n
  have h3:∀ (l:List UInt8) (h:l ≠ []),l=decl n→(l.getLast h).toNat=48+n%10:=by
    rintro l h rfl
    by_cases h0:n=0
    · subst h0; rfl
    · have e3:decl n=(rdig (n/10)).reverse ++ [UInt8.ofNat (48+n%10)]:=by
        unfold decl
        rw [if_neg h0,zbL (by omega),List.reverse_cons]
      have:(decl n).getLast h=UInt8.ofNat (48+n%10):=by
        exact (fun (l l':List UInt8) (c:UInt8) (h:l ≠ []) (e:l=l' ++ [c])=>(by subst e; simp:l.getLast h=c)) _ _ _ h e3
      rw [this,za0 _ (Nat.mod_lt _ (by decide))]
  exact h3 _ _ hd
theorem T_odd (n:Nat):((((bt (T n) (((T n).size:Int)-1))-48)%256)%2=1)↔n%2=1:=by
  rw [(T_last n).2]
  omega
theorem T_2:(⟨#[50]⟩:ByteArray)=T 2:=by unfold T; rw [zbM (by decide)]; rfl
theorem Near_T {a b:Nat} (ha:(T a).size≤137438950000) (hb:(T b).size≤137438950000) (h:0<b):c2_Near.f (T a) (T b)=some (T (near a b)):=by
  have hr:(T (a%b)).size≤137438950000:=Nat.le_trans (za3 (Nat.mod_le a b)) ha
  have hq:(T (a/b)).size≤137438950000:=Nat.le_trans (za3 (Nat.div_le_self a b)) ha
  have h2:(T 2).size≤137438950000:=by rw [←T_2]; decide
  have hr2:(T (a%b*2)).size≤137438952472:=by
    have:=zbx (a%b) 2
    have e:(T 2).size=1:=by rw [←T_2]; rfl
    omega
  have h1:(T 1).size≤137438952472:=by rw [←T_1]; decide
  have hp:=T_last (a/b)
  have ho:=T_odd (a/b)
  unfold c2_Near.f
  rw [Divide_T (by omega) (by omega) h,Option.bind_some]
  simp only [T_2,T_1]
  rw [zcY (by omega) (by omega),Option.bind_some,Compare_T (by omega) (by omega),Option.bind_some,Plus_T (by omega) (by omega),Option.bind_some]
  have hw:wrap64 (((T (a/b)).size:Int)-1)=((T (a/b)).size:Int)-1:=by unfold wrap64; omega
  rw [hw]
  unfold near
  rcases Nat.lt_trichotomy (a%b*2) b with hlt|hE|hgt
  · have hc:cmpN (a%b*2) b = -1:=if_pos hlt
    rw [hc,if_neg (by decide),if_neg (by decide),if_neg (by omega)]
  · have hc:cmpN (a%b*2) b=0:=(if_neg (by omega)).trans (if_neg (by omega))
    rw [hc,if_neg (by decide),if_pos rfl,if_pos (by omega),if_pos (by omega)]
    by_cases h5:a/b%2=1
    · rw [if_pos (ho.2 h5),if_pos (by omega)]
    · rw [if_neg (fun e=>h5 (ho.1 e)),if_neg (by omega)]
  · have hc:cmpN (a%b*2) b=1:=(if_neg (by omega)).trans (if_pos hgt)
    rw [hc,if_pos (by decide),if_pos (by omega)]
theorem even_places (x : Rat) (p : Nat) : evenR (x * tenR (p : Int)) = sgn (decide (x.num < 0)) (near (x.num.natAbs * 10 ^ p) x.den) := by
  have hden:=x.den_pos
  have e1:x*tenR (p:Int)=Rat.divInt (sgn (decide (x.num<0)) (x.num.natAbs*10^p)) x.den:=by
    have ht:tenR (p:Int)=(((10:Int)^p:Int):Rat):=by unfold tenR; rw [if_neg (by omega),Int.natAbs_natCast]
    have hi:((((10:Int)^p:Int)):Rat).num=(10:Int)^p:=rfl
    have hj:((((10:Int)^p:Int)):Rat).den=1:=rfl
    rw [ht,zcK,hi,hj,Int.natCast_one,Int.mul_one,←zcT,zcN,Int.natCast_pow]; rfl
  obtain ⟨f1,f2,f3⟩:=zdi (decide (x.num<0)) (x.num.natAbs*10^p) x.den hden
  rw [even_near,e1]
  have hn : near (Rat.divInt (sgn (decide (x.num < 0)) (x.num.natAbs * 10 ^ p)) x.den).num.natAbs (Rat.divInt (sgn (decide (x.num < 0)) (x.num.natAbs * 10 ^ p)) x.den).den = near (x.num.natAbs * 10 ^ p) x.den := by
    refine near_div _ _ _ hden ?_
    rw [f1,f2]
    generalize x.num.natAbs*10^p=A
    obtain ⟨u,hu⟩:=Nat.gcd_dvd_left A x.den
    obtain ⟨v,hv⟩:=Nat.gcd_dvd_right A x.den
    have hg:0<Nat.gcd A x.den:=Nat.gcd_pos_of_pos_right _ hden
    have hu' : A / Nat.gcd A x.den = u := by conv => lhs; lhs; rw [hu]
                                             exact Nat.mul_div_cancel_left _ hg
    have hv' : x.den / Nat.gcd A x.den = v := by conv => lhs; lhs; rw [hv]
                                                 exact Nat.mul_div_cancel_left _ hg
    rw [hu',hv']
    conv=>lhs; rw [hv]
    conv=>rhs; rw [hu]
    rw [←Nat.mul_assoc,Nat.mul_comm u,Nat.mul_assoc]
  rw [hn,f3]
  by_cases h0:x.num.natAbs*10^p=0
  · rw [h0]
    have:near 0 x.den=0:=by
      unfold near
      rw [Nat.zero_mod,Nat.zero_div]
      exact if_neg (by omega)
    rw [this]
    cases decide (x.num<0)<;>rfl
  · rw [decide_eq_true h0,Bool.and_true]
theorem Steps_T (s:Bool) (a b p:Nat) (hb:0<b) (ha:(T a).size≤100000) (hbs:(T b).size≤100000) (hp:p≤100000):c2_Steps.f s (T a) (T b) (p:Int)=some (T (near (a*10^p) b)):=by
  unfold c2_Steps.f
  have ht:=T_ten_size p
  have hm:(T (a*10^p)).size≤200001:=by have:=zbx a (10^p); omega
  rw [if_pos (by omega),Zeros_n p (by omega),Option.bind_some,if_pos (by rw [zer_size]; omega),show (⟨#[49]⟩:ByteArray)++zer p=T (10^p) from T_ten p,zcY (by omega) (by omega),Option.bind_some,Near_T (by omega) (by omega) hb,Option.bind_some]
theorem read_ev (a b:ByteArray) (x:Rat) (h:RR a b x):Ev (fun k=>c2_Read.f k a b) (Fr x):=by
  have hs:spl a=(decide (x.num<0),T x.num.natAbs):=by
    rw [h.num]
    conv=>lhs; rw [←zcN x.num]
    exact spl_wtext _ _ (fun e=>by have:=of_decide_eq_true e; omega)
  have hne:¬ a.toList=([]:List UInt8):=by
    intro e
    have h1:=spl_empty e
    rw [hs] at h1
    have h2:=congrArg Prod.snd h1
    have h3:=congrArg ByteArray.size h2
    have h4:=zbb x.num.natAbs
    have h5:a.size=0:=by rw [←zaq,←ba_toList,e]; rfl
    have h6:(T x.num.natAbs).size=a.size:=h3
    omega
  have hp:=size_pos_of hne
  have hb:(b.toList == ([]:List UInt8))=false:=by
    refine beq_eq_false_iff_ne.2 (fun e => ?_)
    have h4:=zbb x.den
    rw [←h.den,←zaq,←ba_toList,e] at h4
    cases h4
  unfold c2_Read.f
  rw [hb]
  refine Ev.congr (fun k=>if_neg hne) ?_
  refine Ev.step (f:=fun k=>some (Fr x)) (fun k => ?_) (Ev.now _)
  show c2_Read.j0 (k+1) false a b=_
  simp only [c2_Read.j0]
  have hbt:=bt0 hp
  rw [if_neg (by decide),if_pos (by omega)]
  have hF:Fr x=((spl a).1,(spl a).2,b):=by unfold Fr; rw [hs,h.den]
  rw [hF]
  cases hh:(spl a).1
  · rw [hh] at hbt
    rw [if_neg (beq_eq_false_iff_ne.1 hbt),spl_pos hh]
  · rw [hh] at hbt
    rw [if_pos (beq_iff_eq.1 hbt),if_pos (by omega),(spl_neg hh).2]
theorem tail_f (t sg:ByteArray) (p:Nat) (h1:p+1≤t.size) (h2:t.size≤100000) (h3:sg.size≤1):(if (p:Int)=0 then (if sg.size+t.size≤9223372036854775807 then (some (sg++t,(0:Int))) else (none)) else (if 0≤(wrap64 ((t.size:Int)-p)) then (if (wrap64 ((t.size:Int)-p))≤(t.size:Int) then (if sg.size+(t.extract 0 ((wrap64 ((t.size:Int)-p)):Int).toNat).size≤9223372036854775807 then (if (sg++(t.extract 0 ((wrap64 ((t.size:Int)-p)):Int).toNat)).size+1≤9223372036854775807 then (if ((sg++(t.extract 0 ((wrap64 ((t.size:Int)-p)):Int).toNat))++(⟨#[46]⟩:ByteArray)).size+(t.extract ((wrap64 ((t.size:Int)-p)):Int).toNat t.size).size≤9223372036854775807 then (some (((sg++(t.extract 0 ((wrap64 ((t.size:Int)-p)):Int).toNat))++(⟨#[46]⟩:ByteArray))++(t.extract ((wrap64 ((t.size:Int)-p)):Int).toNat t.size),0)) else (none)) else (none)) else (none)) else (none)) else (none)))=some (sg++ptT t p,0):=by
  have hw:wrap64 ((t.size:Int)-p)=(t.size:Int)-p:=by unfold wrap64; omega
  have hn:((t.size:Int)-p).toNat=t.size-p:=by omega
  have e0:(t.extract 0 (t.size-p)).size=min (t.size-p) t.size:=by rw [ByteArray.size_extract,Nat.sub_zero]
  have e1:(t.extract (t.size-p) t.size).size=t.size-(t.size-p):=by rw [ByteArray.size_extract,Nat.min_self]
  have e4:(⟨#[46]⟩:ByteArray).size=1:=rfl
  by_cases h0:p=0
  · subst h0
    have e:ptT t 0=t:=if_neg (by decide)
    rw [if_pos (show ((0:Nat):Int)=0 from rfl),if_pos (by omega),e]
  · rw [if_neg (by omega),hw,hn,if_pos (by omega),if_pos (by omega),if_pos (by omega),if_pos (by rw [ByteArray.size_append]; omega),if_pos (by rw [ByteArray.size_append,ByteArray.size_append]; omega)]
    unfold ptT
    rw [if_pos (by omega),ByteArray.append_assoc,ByteArray.append_assoc,ByteArray.append_assoc]
theorem j2_ev (p:Nat) (t sg:ByteArray) (hp:p≤600) (ht:t.size≤600) (ht0:0<t.size) (hs:sg.size≤1):Ev (fun k=>c2_Digits.j2 k (p:Int) t sg) (sg++ptT (padT t p) p,0):=by
  refine Ev.step (f:=fun k=>some (sg++ptT (padT t p) p,0)) (fun k => ?_) (Ev.now _)
  simp only [c2_Digits.j2]
  by_cases h:(t.size:Int)≤p
  · have hz:wrap64 ((wrap64 ((p:Int)+1))-(t.size:Int))=((p+1-t.size:Nat):Int):=by unfold wrap64; omega
    have hpad:padT t p=zer (p+1-t.size)++t:=if_pos (by omega)
    have hsz:(zer (p+1-t.size)).size=p+1-t.size:=zer_size _
    rw [if_pos h,hz,Zeros_n _ (by omega),Option.bind_some,if_pos (by omega),hpad]
    exact tail_f _ sg p (by rw [ByteArray.size_append]; omega) (by rw [ByteArray.size_append]; omega) hs
  · have hpad:padT t p=t:=if_neg (by omega)
    rw [if_neg h,hpad]
    exact tail_f t sg p (by omega) (by omega) hs
theorem digits_ev (a b : ByteArray) (p : Int) (hp0 : -9223372036854775808 ≤ p) (hp1 : p < 9223372036854775808) : ∃ r, rat_Digits.f a b p = some r ∧ Ev (fun k => c2_Digits.f k a b p) r := by
  by_cases he:∃ x,RR a b x
  · have hx := he.choose_spec
    have hc:=(core_iff a b).2 he
    have hr:=right_ev a b
    rw [hc] at hr
    refine ⟨digR he.choose p,?_,?_⟩
    · unfold rat_Digits.f; rw [dif_pos he]
    unfold c2_Digits.f
    generalize he.choose=x at hx
    refine Ev.bind hr ?_
    refine Ev.congr (fun k=>if_pos rfl) ?_
    by_cases hb:p<0∨600<p
    · have hd:digR x p=(⟨#[]⟩,1):=if_pos hb
      rw [hd]
      have hj:Ev (fun k=>c2_Digits.j0 k p true a b) ((⟨#[]⟩:ByteArray),(1:Int)):=by
        refine Ev.step (f:=fun _=>some (⟨#[]⟩,1)) (fun k => ?_) (Ev.now _)
        simp only [c2_Digits.j0]
        rw [if_pos trivial]
      by_cases hn:p<0
      · exact Ev.congr (fun k=>if_pos hn) hj
      · have:decide (p>600)=true:=decide_eq_true (by omega)
        rw [this]
        exact Ev.congr (fun k=>if_neg hn) hj
    · obtain ⟨q,rfl⟩:∃ q:Nat,p=q:=⟨p.toNat,by omega⟩
      have hq:q≤600:=by omega
      have hf:decide ((q:Int)>600)=false:=decide_eq_false (by omega)
      rw [hf]
      refine Ev.congr (fun k=>if_neg (by omega)) ?_
      have sn:=(zax (k:=600) (by decide)).2 hx.ln
      have sd:=(zax (k:=600) (by decide)).2 hx.ld
      have hE:=even_places x q
      have hst:=Steps_T (Fr x).1 x.num.natAbs x.den q x.den_pos (by omega) (by omega) (by omega)
      have hab:(evenR (x*tenR (q:Int))).natAbs=near (x.num.natAbs*10^q) x.den:=by rw [hE,zcU]
      have hdg:digR x (q:Int)=if 600<(T (near (x.num.natAbs*10^q) x.den)).size then (⟨#[]⟩,7) else (dgt (evenR (x*tenR (q:Int))) q,0):=by
        unfold digR
        rw [if_neg hb,hab,Int.toNat_natCast]
      rw [hdg]
      generalize near (x.num.natAbs*10^q) x.den=M at hst hE hab
      refine Ev.step (f:=fun k=>(c2_Read.f k a b).bind fun bt436=>((c2_Steps.f bt436.1 bt436.2.1 bt436.2.2 (q:Int)).bind fun t440=>(if (t440.size:Int)>600 then (some ((⟨#[]⟩:ByteArray),7)) else (if bt436.1=true then (c2_Digits.j1 k (q:Int) t440 (⟨#[]⟩:ByteArray) (t440.toList != ([48]:List UInt8))) else (c2_Digits.j1 k (q:Int) t440 (⟨#[]⟩:ByteArray) false))))) (fun k => ?_) ?_
      · simp only [c2_Digits.j0]
        rw [if_neg (by decide)]
      refine Ev.bind (read_ev a b x hx) ?_
      refine Ev.congr (f:=fun k=>(if ((T M).size:Int)>600 then (some ((⟨#[]⟩:ByteArray),7)) else (if (Fr x).1=true then (c2_Digits.j1 k (q:Int) (T M) (⟨#[]⟩:ByteArray) ((T M).toList != ([48]:List UInt8))) else (c2_Digits.j1 k (q:Int) (T M) (⟨#[]⟩:ByteArray) false)))) (fun k => ?_) ?_
      · have:c2_Steps.f (Fr x).1 (Fr x).2.1 (Fr x).2.2 (q:Int)=some (T M):=hst
        rw [this,Option.bind_some]
      by_cases hM:600<(T M).size
      · rw [if_pos hM]
        exact Ev.congr (fun k=>if_pos (by omega)) (Ev.now _)
      · rw [if_neg hM]
        refine Ev.congr (fun k=>if_neg (by omega)) ?_
        have hMp:=zbb M
        have hj1f:Ev (fun k=>c2_Digits.j1 k (q:Int) (T M) (⟨#[]⟩:ByteArray) false) (ptT (padT (T M) q) q,0):=by
          refine Ev.step (f:=fun k=>c2_Digits.j2 k (q:Int) (T M) (⟨#[]⟩:ByteArray)) (fun k => ?_) ?_
          · simp only [c2_Digits.j1]
            rw [if_neg (by decide)]
          · have h:=j2_ev q (T M) ⟨#[]⟩ hq (by omega) hMp (by decide)
            have e:(⟨#[]⟩:ByteArray)++ptT (padT (T M) q) q=ptT (padT (T M) q) q:=ByteArray.empty_append
            rw [e] at h
            exact h
        have hj1t:Ev (fun k=>c2_Digits.j1 k (q:Int) (T M) (⟨#[]⟩:ByteArray) true) ((⟨#[45]⟩:ByteArray)++ptT (padT (T M) q) q,0):=by
          refine Ev.step (f:=fun k=>c2_Digits.j2 k (q:Int) (T M) (⟨#[45]⟩:ByteArray)) (fun k => ?_) ?_
          · simp only [c2_Digits.j1]
            rw [if_pos trivial]
          · exact j2_ev q (T M) ⟨#[45]⟩ hq (by omega) hMp (by decide)
        have hs1:(Fr x).1=decide (x.num<0):=rfl
        unfold dgt
        rw [hab]
        by_cases hn:x.num<0
        · rw [decide_eq_true hn] at hE hs1
          refine Ev.congr (fun k=>if_pos hs1) ?_
          by_cases hm0:M=0
          · subst hm0
            have hb0:((T 0).toList != ([48]:List UInt8))=false:=by rw [b48.2 rfl]; rfl
            rw [hb0,if_neg (by rw [hE]; decide)]
            exact hj1f
          · have hb1:((T M).toList != ([48]:List UInt8))=true:=bne_iff_ne.2 (fun e=>hm0 (T_inj (b48.1 e)))
            rw [hb1,if_pos (by rw [hE]; simp [sgn]; omega)]
            exact hj1t
        · rw [decide_eq_false hn] at hE hs1
          refine Ev.congr (fun k=>if_neg (by rw [hs1]; decide)) ?_
          rw [if_neg (by rw [hE]; simp [sgn])]
          exact hj1f
  · have hc:coreB (spl a).1 (spl a).2 b=false:=by
      cases hcc:coreB (spl a).1 (spl a).2 b
      · rfl
      · exact absurd ((core_iff a b).1 hcc) he
    have hr:=right_ev a b
    rw [hc] at hr
    refine ⟨(⟨#[]⟩,3),?_,?_⟩
    · unfold rat_Digits.f; rw [dif_neg he]
    · unfold c2_Digits.f
      refine Ev.bind hr ?_
      exact Ev.congr (fun k=>if_neg (by decide)) (Ev.now _)
noncomputable def twoF (why:Rat→Rat→Int) (op:Rat→Rat→Rat) (a0 a1 b0 b1:ByteArray):Option (ByteArray×ByteArray×Int):=by
 classical exact if h:(∃ x,RR a0 a1 x)∧∃ y,RR b0 b1 y then some (tell (why h.1.choose h.2.choose) (op h.1.choose h.2.choose)) else some (⟨#[]⟩,⟨#[]⟩,3)
noncomputable def oneF (why:Rat→Int) (op:Rat→Rat) (a0 a1:ByteArray):Option (ByteArray×ByteArray×Int):=by
 classical exact if h:∃ x,RR a0 a1 x then some (tell (why h.choose) (op h.choose)) else some (⟨#[]⟩,⟨#[]⟩,3)
noncomputable def rat_Add.f (a0_0 a0_1 a1_0 a1_1:ByteArray):Option (ByteArray×ByteArray×Int):=twoF (fun x y=>0) (fun x y=>x+y) a0_0 a0_1 a1_0 a1_1
noncomputable def rat_Sub.f (a0_0 a0_1 a1_0 a1_1:ByteArray):Option (ByteArray×ByteArray×Int):=twoF (fun x y=>0) (fun x y=>x-y) a0_0 a0_1 a1_0 a1_1
noncomputable def rat_Mul.f (a0_0 a0_1 a1_0 a1_1:ByteArray):Option (ByteArray×ByteArray×Int):=twoF (fun x y=>0) (fun x y=>x*y) a0_0 a0_1 a1_0 a1_1
noncomputable def rat_Neg.f (a0_0 a0_1:ByteArray):Option (ByteArray×ByteArray×Int):=oneF (fun x=>0) (fun x => -x) a0_0 a0_1
noncomputable def rat_Quo.f (a0_0 a0_1 a1_0 a1_1:ByteArray):Option (ByteArray×ByteArray×Int):=twoF (fun x y=>if y=0 then 8 else 0) (fun x y=>x/y) a0_0 a0_1 a1_0 a1_1
noncomputable def rat_Inv.f (a0_0 a0_1:ByteArray):Option (ByteArray×ByteArray×Int):=oneF (fun x=>if x=0 then 8 else 0) (fun x=>x⁻¹) a0_0 a0_1
end Go.Proofs.ZQ
end
section
namespace Go.Proofs.ZQ
open Go.RowKit Go.Proofs.ZW.Wa Go.Proofs.ZP Go.Proofs.ZW.Wb Go.Proofs.ZW.Wc
def FrAt (w:World) (b:Nat) (s:Bool) (x y:ByteArray):Prop:=w.heap[b]? = some (.cells #[.bool s,.string x,.string y] 66 (0,0))
theorem FrAt.c0 {w:World} {b:Nat} {s:Bool} {x y:ByteArray} (h:FrAt w b s x y):w.cell? ⟨b,0,none⟩=some (.bool s):=(zaf h 0).trans rfl
theorem FrAt.c1 {w:World} {b:Nat} {s:Bool} {x y:ByteArray} (h:FrAt w b s x y):w.cell? ⟨b,1,none⟩=some (.string x):=(zaf h 1).trans rfl
theorem FrAt.c2 {w:World} {b:Nat} {s:Bool} {x y:ByteArray} (h:FrAt w b s x y):w.cell? ⟨b,2,none⟩=some (.string y):=(zaf h 2).trans rfl
theorem FrAt.below {w w':World} {b:Nat} {s:Bool} {x y:ByteArray} (h:FrAt w b s x y) (hb:Below w.heap.size w w'):FrAt w' b s x y:=(hb.block _ (zar h)).trans h
theorem FrAt.keep {w w':World} {b n:Nat} {s:Bool} {x y:ByteArray} (h:FrAt w b s x y) (hb:Below n w w') (hn:b<n):FrAt w' b s x y:=(hb.block _ hn).trans h
theorem FrAt.new (w:World) (s:Bool) (x y:ByteArray):FrAt (w.alloc (.cells #[.bool s,.string x,.string y] 66)) w.heap.size s x y:=zaC w _
theorem FrAt.alloc {w:World} {b:Nat} {s:Bool} {x y:ByteArray} (h:FrAt w b s x y) (o:Obj):FrAt (w.alloc o) b s x y:=h.below (zaa (Below.refl _ _) _)
theorem fr_put {w w2:World} {D:Nat} {s:Bool} {x y:ByteArray} (f:FrAt w2 D s x y) (hb:Below w.heap.size w w2) (hD:w.heap.size≤D) (t:Bool) (u v:ByteArray):FrAt (((w2.setCell ⟨D,0,none⟩ (.bool t)).setCell ⟨D,1,none⟩ (.string u)).setCell ⟨D,2,none⟩ (.string v)) D t u v∧Below w.heap.size w (((w2.setCell ⟨D,0,none⟩ (.bool t)).setCell ⟨D,1,none⟩ (.string u)).setCell ⟨D,2,none⟩ (.string v)):=
 ⟨(zaw (zaw (zaw f 0 (.bool t)) 1 (.string u)) 2 (.string v)).trans rfl,zag (zag (zag hb hD) hD) hD⟩
theorem fr_three (w:World) (s t u:Bool) (a b c d e f:ByteArray):FrAt (((w.alloc (.cells #[.bool s,.string a,.string b] 66)).alloc (.cells #[.bool t,.string c,.string d] 66)).alloc (.cells #[.bool u,.string e,.string f] 66)) w.heap.size s a b ∧
  FrAt (((w.alloc (.cells #[.bool s,.string a,.string b] 66)).alloc (.cells #[.bool t,.string c,.string d] 66)).alloc (.cells #[.bool u,.string e,.string f] 66)) (w.heap.size+1) t c d ∧
  FrAt (((w.alloc (.cells #[.bool s,.string a,.string b] 66)).alloc (.cells #[.bool t,.string c,.string d] 66)).alloc (.cells #[.bool u,.string e,.string f] 66)) (w.heap.size+1+1) u e f ∧
  Below w.heap.size w (((w.alloc (.cells #[.bool s,.string a,.string b] 66)).alloc (.cells #[.bool t,.string c,.string d] 66)).alloc (.cells #[.bool u,.string e,.string f] 66)):=by
 refine ⟨((FrAt.new w s a b).alloc _).alloc _,?_,?_,zaa (zaa (zaa (Below.refl _ _) _) _) _⟩
 ·have h:=(FrAt.new (w.alloc (.cells #[.bool s,.string a,.string b] 66)) t c d).alloc (.cells #[.bool u,.string e,.string f] 66)
  rw [World.size_alloc] at h
  exact h
 ·have h:=FrAt.new ((w.alloc (.cells #[.bool s,.string a,.string b] 66)).alloc (.cells #[.bool t,.string c,.string d] 66)) u e f
  rw [World.size_alloc,World.size_alloc] at h
  exact h
noncomputable def c2_Plus.f (a0_0:Bool) (a0_1:ByteArray) (a0_2:ByteArray) (a1_0:Bool) (a1_1:ByteArray) (a1_2:ByteArray):Option (Bool×ByteArray×ByteArray):=(c1_Times.f a0_1 a1_2).bind fun t601=>((c1_Times.f a1_1 a0_2).bind fun t602=>((c1_Times.f a0_2 a1_2).bind fun t603=>(if (a0_0 == a1_0)=true then ((c1_Plus.f t601 t602).bind fun t604=>((c2_Lowest.f a0_0 t604 t603).bind fun bt605=>(some (bt605.1,bt605.2.1,bt605.2.2)))) else ((c1_Compare.f t601 t602).bind fun t608=>(if t608≥0 then ((c1_Minus.f t601 t602).bind fun t609=>((c2_Lowest.f a0_0 t609 t603).bind fun bt610=>(some (bt610.1,bt610.2.1,bt610.2.2)))) else ((c1_Minus.f t602 t601).bind fun t613=>((c2_Lowest.f a1_0 t613 t603).bind fun bt614=>(some (bt614.1,bt614.2.1,bt614.2.2)))))))))
theorem c2_Plus.calls (a0_0:Bool) (a0_1:ByteArray) (a0_2:ByteArray) (a1_0:Bool) (a1_1:ByteArray) (a1_2:ByteArray) (r1:Bool) (r2:ByteArray) (r3:ByteArray) (w:World) (h:c2_Plus.f a0_0 a0_1 a0_2 a1_0 a1_1 a1_2=some (r1,r2,r3)) :
  Calls Tryz.prog 60 #[.agg #[.bool a0_0,.string a0_1,.string a0_2],.agg #[.bool a1_0,.string a1_1,.string a1_2]] w fun e w'=>e = .returned (.agg #[.bool r1,.string r2,.string r3])∧Below w.heap.size w w':=by
 unfold c2_Plus.f at h
 obtain ⟨x,hx,h2⟩:=Option.bind_eq_some_iff.1 h
 obtain ⟨y,hy,h3⟩:=Option.bind_eq_some_iff.1 h2
 obtain ⟨d,hd,h4⟩:=Option.bind_eq_some_iff.1 h3
 have HX:=Lib.hid (fun W=>c1_Times.calls a0_1 a1_2 x W hx)
 have HY:=Lib.hid (fun W=>c1_Times.calls a1_1 a0_2 y W hy)
 have HD:=Lib.hid (fun W=>c1_Times.calls a0_2 a1_2 d W hd)
 have H:=Lib.hid h4
 clear h h2 h3 h4 hx hy hd
 go_enter Tryz.func60,Tryz.ntmps60
 obtain ⟨fa,fb,fr,hba⟩:=fr_three w a0_0 a1_0 false a0_1 a0_2 a1_1 a1_2 ⟨#[]⟩ ⟨#[]⟩
 go_wp2_with fail
 generalize (((w.alloc (.cells #[.bool a0_0,.string a0_1,.string a0_2] 66)).alloc (.cells #[.bool a1_0,.string a1_1,.string a1_2] 66)).alloc (.cells #[.bool false,.string ⟨#[]⟩,.string ⟨#[]⟩] 66))=W0 at *
 generalize hBx:w.heap.size+1=X0 at *
 generalize hBe:X0+1=B0 at *
 have HBE:=Lib.hid (show w.heap.size≤B0 by omega)
 have HLT:=Lib.hid (show w.heap.size<B0∧X0<B0 by omega)
 have HK:=Lib.hid (show ∀ W':World,Below W0.heap.size W0 W'→W'.cell? ⟨w.heap.size,1,none⟩=some (.string a0_1)∧W'.cell? ⟨w.heap.size,2,none⟩=some (.string a0_2)∧W'.cell? ⟨X0,1,none⟩=some (.string a1_1)∧W'.cell? ⟨X0,2,none⟩=some (.string a1_2) from fun W' h=>⟨(fa.below h).c1,(fa.below h).c2,(fb.below h).c1,(fb.below h).c2⟩)
 clear hBe hBx
 have HLE:=Lib.hid (show B0≤W0.heap.size from Nat.le_of_lt (zar fr))
 have HFA:=Lib.hid fa
 have HFB:=Lib.hid fb
 have HFR:=Lib.hid fr
 have HBA:=Lib.hid hba
 clear fa fb fr hba
 go_region_held3 (fun w'=>w'.cell? ⟨w.heap.size,1,none⟩=some (.string a0_1)∧w'.cell? ⟨w.heap.size,2,none⟩=some (.string a0_2)∧w'.cell? ⟨X0,1,none⟩=some (.string a1_1)∧w'.cell? ⟨X0,2,none⟩=some (.string a1_2))
  (exact HK.out _ (by repeat (with_reducible first|exact Below.refl _ _|apply zap|apply zab|refine bthen ?_ hb3|refine bthen ?_ hb2|refine bthen ?_ hb1)))
  ((first
   | (go_simp; go_at_call 131; (with_reducible change Calls _ _ #[.string a0_1,.string a1_2] _ _); refine (HX.out _).mono ?_; rintro e w1 ⟨rfl,hb1⟩)
   | (go_simp; go_at_call 131; (with_reducible change Calls _ _ #[.string a1_1,.string a0_2] _ _); refine (HY.out _).mono ?_; rintro e w2 ⟨rfl,hb2⟩)
   | (go_simp; go_at_call 131; (with_reducible change Calls _ _ #[.string a0_2,.string a1_2] _ _); refine (HD.out _).mono ?_; rintro e w3 ⟨rfl,hb3⟩)))
 rename_i hHeld
 clear hHeld
 have HB3:=Lib.hid (show Below W0.heap.size W0 w3 from by repeat (with_reducible first|exact Below.refl _ _|apply zap|apply zab|refine bthen ?_ hb3|refine bthen ?_ hb2|refine bthen ?_ hb1))
 clear hb1 hb2 hb3 HX HY HD HK
 have q0:=(HFA.out.below HB3.out).c0
 have q1:=(HFB.out.below HB3.out).c0
 have HQ:=Lib.hid (show ∀ W':World,Below W0.heap.size W0 W'→W'.cell? ⟨w.heap.size,0,none⟩=some (.bool a0_0)∧W'.cell? ⟨X0,0,none⟩=some (.bool a1_0) from fun W' h=>⟨(HFA.out.below h).c0,(HFB.out.below h).c0⟩)
 have HQS:=Lib.hid (show ∀ (W':World) (u v t:Value),Below W0.heap.size W0 W'→(((W'.setCell ⟨B0,0,none⟩ u).setCell ⟨B0,1,none⟩ v).setCell ⟨B0,2,none⟩ t).cell? ⟨w.heap.size,0,none⟩=some (.bool a0_0)∧(((W'.setCell ⟨B0,0,none⟩ u).setCell ⟨B0,1,none⟩ v).setCell ⟨B0,2,none⟩ t).cell? ⟨X0,0,none⟩=some (.bool a1_0) from fun W' u v t h =>
  have k:=Below.setCell (p:=⟨B0,2,none⟩) (Below.setCell (p:=⟨B0,1,none⟩) (Below.setCell (p:=⟨B0,0,none⟩) (h.mono HLE.out) (Nat.le_refl _) u) (Nat.le_refl _) v) (Nat.le_refl _) t
  ⟨(HFA.out.keep k HLT.out.1).c0,(HFB.out.keep k HLT.out.2).c0⟩)
 by_cases hs:(a0_0 == a1_0)=true
 ·obtain ⟨t,ht,h⟩:=Option.bind_eq_some_iff.1 ((if_pos hs).symm.trans H.out)
  obtain ⟨⟨l0,l1,l2⟩,hl,h⟩:=Option.bind_eq_some_iff.1 h
  cases h
  have HT:=Lib.hid (fun W=>c1_Plus.calls x y t W ht)
  have HL:=Lib.hid (fun W=>c2_Lowest.calls a0_0 t d l0 l1 l2 W hl)
  clear ht hl H
  go_wp2_with fail
  go_region_held3 (fun w'=>w'.cell? ⟨w.heap.size,0,none⟩=some (.bool a0_0)∧w'.cell? ⟨X0,0,none⟩=some (.bool a1_0))
   (first|(with_reducible refine HQS.out _ _ _ _ ?_; repeat (with_reducible first|exact Below.refl _ _|exact HB3.out|apply zap|apply zab|refine bthen ?_ hb5|refine bthen ?_ hb4|refine bthen ?_ hb6))|(with_reducible refine HQ.out _ ?_; repeat (with_reducible first|exact Below.refl _ _|exact HB3.out|apply zap|apply zab|refine bthen ?_ hb5|refine bthen ?_ hb4|refine bthen ?_ hb6)))
   ((first
    | (go_simp; go_at_call 129; refine (HT.out _).mono ?_; rintro e w4 ⟨rfl,hb4⟩)
    | (go_simp; go_at_call 111; refine (HL.out _).mono ?_; rintro e w5 ⟨rfl,hb5⟩; have fr5:=HFR.out.below (show Below W0.heap.size W0 w5 from (by repeat (with_reducible first|exact Below.refl _ _|exact HB3.out|apply zap|apply zab|refine bthen ?_ hb5|refine bthen ?_ hb4|refine bthen ?_ hb6))); have cB0:=fr5.c0; have cB1:=fr5.c1; have cB2:=fr5.c2; have fB0:=zae fr5 0; have fB1:=zae fr5 1; have fB2:=zae fr5 2)))
  have hs1:=zaw fr5 0 (.bool l0)
  have hs2:=zaw hs1 1 (.string l1)
  have hs3:=zaw hs2 2 (.string l2)
  have HS3:=Lib.hid (hs3.trans (show _=some (Obj.cells #[.bool l0,.string l1,.string l2] 66 (0,0)) from rfl))
  have HBF:=Lib.hid (zag (zag (zag (g:=B0) (j:=0) (v:=.bool l0) (bthen HBA.out (show Below W0.heap.size W0 w5 from (by repeat (with_reducible first|exact Below.refl _ _|exact HB3.out|apply zap|apply zab|refine bthen ?_ hb5|refine bthen ?_ hb4|refine bthen ?_ hb6)))) HBE.out) (j:=1) (v:=.string l1) (g:=B0) HBE.out) (j:=2) (v:=.string l2) (g:=B0) HBE.out)
  clear hs1 hs2 hs3 fr5 cB0 cB1 cB2 fB0 fB1 fB2 hb4 hb5
  go_wp2
  refine bodyPost_ret (results_cell_row rfl _ _ B0 66 #[.bool l0,.string l1,.string l2] (0,0) _ rfl HS3.out Tryz.underlying66 rfl (by kernel_rfl)) rfl ?_
  exact ⟨rfl,HBF.out⟩
 ·obtain ⟨c,hc,h⟩:=Option.bind_eq_some_iff.1 ((if_neg hs).symm.trans H.out)
  have HCc:=Lib.hid (fun W=>c1_Compare.calls x y c W hc)
  have hs':(a0_0 == a1_0)=false:=by simpa using hs
  clear hc hs H
  go_wp2_with fail
  refine (HCc.out _).mono ?_
  rintro e w6 ⟨rfl,hb6⟩
  by_cases hg:c≥0
  ·obtain ⟨t,ht,h⟩:=Option.bind_eq_some_iff.1 ((if_pos hg).symm.trans h)
   obtain ⟨⟨l0,l1,l2⟩,hl,h⟩:=Option.bind_eq_some_iff.1 h
   cases h
   have HT:=Lib.hid (fun W=>c1_Minus.calls x y t W ht)
   have HL:=Lib.hid (fun W=>c2_Lowest.calls a0_0 t d l0 l1 l2 W hl)
   clear ht hl HCc
   go_wp2_with fail
   go_region_held3 (fun w'=>w'.cell? ⟨w.heap.size,0,none⟩=some (.bool a0_0)∧w'.cell? ⟨X0,0,none⟩=some (.bool a1_0))
    (first|(with_reducible refine HQS.out _ _ _ _ ?_; repeat (with_reducible first|exact Below.refl _ _|exact HB3.out|apply zap|apply zab|refine bthen ?_ hb5|refine bthen ?_ hb4|refine bthen ?_ hb6))|(with_reducible refine HQ.out _ ?_; repeat (with_reducible first|exact Below.refl _ _|exact HB3.out|apply zap|apply zab|refine bthen ?_ hb5|refine bthen ?_ hb4|refine bthen ?_ hb6)))
    ((first
     | (go_simp; go_at_call 130; refine (HT.out _).mono ?_; rintro e w4 ⟨rfl,hb4⟩)
     | (go_simp; go_at_call 111; refine (HL.out _).mono ?_; rintro e w5 ⟨rfl,hb5⟩; have fr5:=HFR.out.below (show Below W0.heap.size W0 w5 from (by repeat (with_reducible first|exact Below.refl _ _|exact HB3.out|apply zap|apply zab|refine bthen ?_ hb5|refine bthen ?_ hb4|refine bthen ?_ hb6))); have cB0:=fr5.c0; have cB1:=fr5.c1; have cB2:=fr5.c2; have fB0:=zae fr5 0; have fB1:=zae fr5 1; have fB2:=zae fr5 2)))
   have hs1:=zaw fr5 0 (.bool l0)
   have hs2:=zaw hs1 1 (.string l1)
   have hs3:=zaw hs2 2 (.string l2)
   have HS3:=Lib.hid (hs3.trans (show _=some (Obj.cells #[.bool l0,.string l1,.string l2] 66 (0,0)) from rfl))
   have HBF:=Lib.hid (zag (zag (zag (g:=B0) (j:=0) (v:=.bool l0) (bthen HBA.out (show Below W0.heap.size W0 w5 from (by repeat (with_reducible first|exact Below.refl _ _|exact HB3.out|apply zap|apply zab|refine bthen ?_ hb5|refine bthen ?_ hb4|refine bthen ?_ hb6)))) HBE.out) (j:=1) (v:=.string l1) (g:=B0) HBE.out) (j:=2) (v:=.string l2) (g:=B0) HBE.out)
   clear hs1 hs2 hs3 fr5 cB0 cB1 cB2 fB0 fB1 fB2 hb4 hb5
   go_wp2
   refine bodyPost_ret (results_cell_row rfl _ _ B0 66 #[.bool l0,.string l1,.string l2] (0,0) _ rfl HS3.out Tryz.underlying66 rfl (by kernel_rfl)) rfl ?_
   exact ⟨rfl,HBF.out⟩
  ·obtain ⟨t,ht,h⟩:=Option.bind_eq_some_iff.1 ((if_neg hg).symm.trans h)
   obtain ⟨⟨l0,l1,l2⟩,hl,h⟩:=Option.bind_eq_some_iff.1 h
   cases h
   have HT:=Lib.hid (fun W=>c1_Minus.calls y x t W ht)
   have HL:=Lib.hid (fun W=>c2_Lowest.calls a1_0 t d l0 l1 l2 W hl)
   clear ht hl HCc
   go_wp2_with fail
   go_region_held3 (fun w'=>w'.cell? ⟨w.heap.size,0,none⟩=some (.bool a0_0)∧w'.cell? ⟨X0,0,none⟩=some (.bool a1_0))
    (first|(with_reducible refine HQS.out _ _ _ _ ?_; repeat (with_reducible first|exact Below.refl _ _|exact HB3.out|apply zap|apply zab|refine bthen ?_ hb5|refine bthen ?_ hb4|refine bthen ?_ hb6))|(with_reducible refine HQ.out _ ?_; repeat (with_reducible first|exact Below.refl _ _|exact HB3.out|apply zap|apply zab|refine bthen ?_ hb5|refine bthen ?_ hb4|refine bthen ?_ hb6)))
    ((first
     | (go_simp; go_at_call 130; refine (HT.out _).mono ?_; rintro e w4 ⟨rfl,hb4⟩)
     | (go_simp; go_at_call 111; refine (HL.out _).mono ?_; rintro e w5 ⟨rfl,hb5⟩; have fr5:=HFR.out.below (show Below W0.heap.size W0 w5 from (by repeat (with_reducible first|exact Below.refl _ _|exact HB3.out|apply zap|apply zab|refine bthen ?_ hb5|refine bthen ?_ hb4|refine bthen ?_ hb6))); have cB0:=fr5.c0; have cB1:=fr5.c1; have cB2:=fr5.c2; have fB0:=zae fr5 0; have fB1:=zae fr5 1; have fB2:=zae fr5 2)))
   have hs1:=zaw fr5 0 (.bool l0)
   have hs2:=zaw hs1 1 (.string l1)
   have hs3:=zaw hs2 2 (.string l2)
   have HS3:=Lib.hid (hs3.trans (show _=some (Obj.cells #[.bool l0,.string l1,.string l2] 66 (0,0)) from rfl))
   have HBF:=Lib.hid (zag (zag (zag (g:=B0) (j:=0) (v:=.bool l0) (bthen HBA.out (show Below W0.heap.size W0 w5 from (by repeat (with_reducible first|exact Below.refl _ _|exact HB3.out|apply zap|apply zab|refine bthen ?_ hb5|refine bthen ?_ hb4|refine bthen ?_ hb6)))) HBE.out) (j:=1) (v:=.string l1) (g:=B0) HBE.out) (j:=2) (v:=.string l2) (g:=B0) HBE.out)
   clear hs1 hs2 hs3 fr5 cB0 cB1 cB2 fB0 fB1 fB2 hb4 hb5
   go_wp2
   refine bodyPost_ret (results_cell_row rfl _ _ B0 66 #[.bool l0,.string l1,.string l2] (0,0) _ rfl HS3.out Tryz.underlying66 rfl (by kernel_rfl)) rfl ?_
   exact ⟨rfl,HBF.out⟩
end Go.Proofs.ZQ
end
