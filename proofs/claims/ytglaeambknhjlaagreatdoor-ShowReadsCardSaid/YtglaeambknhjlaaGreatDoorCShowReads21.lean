/- Texts under the proof, joined by a program (prune.py): SReads, SReads2, LawShowNumbers, TShowReads, P250, LawShowReads. -/
import Derived.Test.YtglaeambknhjlaaGreatDoorCShowReads17
import Derived.Test.YtglaeambknhjlaaGreatDoorCShowReads14
import Derived.Test.YtglaeambknhjlaaGreatDoorCShowReads20
import Derived.Lib.ItoaNum
import Derived.Deep.CutRange
import Derived.Test.YtglaeambknhjlaaGreatDoorCShowReads02
import Derived.Test.YtglaeambknhjlaaGreatDoorCShowReads11
set_option linter.unusedVariables false
set_option linter.unusedSimpArgs false
set_option exponentiation.threshold 20001
set_option maxHeartbeats 8000000
set_option maxRecDepth 100000
section
namespace Go.Proofs.ZQ
open Go.RowKit Go.Proofs.ZW.Wa Go.Proofs.ZP
theorem decD_eq (n:Nat):Lib.decDigits n=decl n:=by
 induction n using Nat.strongRecOn with
 | ind n ih =>
  rw [Lib.decDigits]
  split
  ·rename_i h; rw [zbo h]
  ·rename_i h
   have e:10*(n/10)+n%10=n:=by omega
   rw [ih (n/10) (by omega),←zcL (by omega) (Nat.mod_lt _ (by decide)),e]
theorem itoa_eq (e:Int):Lib.itoa e=sgL (decide (e<0))++decl e.natAbs:=by
 unfold Lib.itoa
 by_cases h:e<0
 ·rw [if_pos h,decide_eq_true h,decD_eq]; rfl
 ·rw [if_neg h,decide_eq_false h,decD_eq,show e.toNat=e.natAbs by omega]; rfl
theorem r_pos {x:Rat}:0<x.num↔0<x:=by
 rw [Rat.lt_iff]
 show _↔0*(x.den:Int)<x.num*((1:Nat):Int)
 omega
theorem r_cases (a b:Rat):a<b∨b≤a:=(Classical.em (a<b)).imp id Rat.not_lt.1
theorem r_trans {a b c:Rat} (h1:a≤b) (h2:b<c):a<c:=Rat.not_le.1 (fun h=>absurd (Rat.le_trans h h1) (Rat.not_le.2 h2))
theorem r_den (x:Rat):x*((x.den:Int):Rat)=(x.num:Rat):=by
 have hd:(x.den:Int)≠0:=by have:=x.den_pos; omega
 rw [zcy (x.den:Int),zcy x.num]
 conv=>lhs; lhs; rw [←zbN x]
 rw [Rat.divInt_mul_divInt,Int.mul_one]
 have:=Rat.divInt_mul_right (n:=x.num) (d:=1) hd
 rw [Int.one_mul] at this
 exact this
theorem cmpR_lt0 {x y:Rat}:cmpR x y<0↔x<y:=by
 unfold cmpR
 rw [Int.sign_neg_iff,Rat.lt_iff]; omega
theorem zbm (n:Nat):tenR (n:Int)=(((10^n:Nat):Int):Rat):=by rw [tenR_pos,zcy]
theorem zcE:tenR 0=1:=by
 have:=zbm 0
 rw [show ((0:Nat):Int)=0 from rfl] at this
 rw [this]; rfl
theorem zdj (n:Nat):tenR ((n:Int)+1)=tenR (n:Int)*10:=by
 have h:=zbm (n+1)
 rw [show ((n+1:Nat):Int)=(n:Int)+1 by omega] at h
 rw [h,zbm,Nat.pow_succ,Int.natCast_mul,Rat.intCast_mul]; rfl
theorem zdk (e:Int):tenR (e+1)=tenR e*10:=by
 by_cases h:0≤e
 ·obtain ⟨n,rfl⟩:∃ n:Nat,e=(n:Int):=⟨e.toNat,by omega⟩
  exact zdj n
 ·obtain ⟨n,rfl⟩:∃ n:Nat,e = -((n:Int)+1):=⟨(-e-1).toNat,by omega⟩
  rw [show -((n:Int)+1)+1 = -(n:Int) by omega,tenR_inv,tenR_inv,zdj]
  have h1:=tenR_ne (n:Int)
  have h2:tenR (n:Int)*(tenR (n:Int))⁻¹=1:=Rat.mul_inv_cancel _ h1
  grind
theorem tenR_addn (e:Int) (n:Nat):tenR (e+n)=tenR e*tenR (n:Int):=by
 induction n with
 | zero=>rw [show ((0:Nat):Int)=0 from rfl,Int.add_zero,zcE,Rat.mul_one]
 | succ n ih =>
  rw [show e+((n+1:Nat):Int)=(e+n)+1 by omega,zdk,ih,show ((n+1:Nat):Int)=(n:Int)+1 by omega,zdk,Rat.mul_assoc]
theorem zb3 (a b:Int):tenR (a+b)=tenR a*tenR b:=by
 by_cases h:0≤b
 ·obtain ⟨n,rfl⟩:∃ n:Nat,b=(n:Int):=⟨b.toNat,by omega⟩
  exact tenR_addn a n
 ·obtain ⟨n,rfl⟩:∃ n:Nat,b = -(n:Int):=⟨(-b).toNat,by omega⟩
  have h1:=tenR_addn (a + -(n:Int)) n
  rw [show a + -(n:Int)+n=a by omega] at h1
  have h3:=Rat.mul_inv_cancel _ (tenR_ne (n:Int))
  rw [h1,tenR_inv,Rat.mul_assoc,h3,Rat.mul_one]
theorem zc4 (e:Int):0<tenR e:=by
 rw [←r_pos,(tenR_parts e).1]
 have:0<10^e.toNat:=Nat.pow_pos (by decide)
 omega
theorem tenR_one (n:Nat):1≤tenR (n:Int):=by
 rw [zbm]
 have:0<10^n:=Nat.pow_pos (by decide)
 have h:(1:Int)≤((10^n:Nat):Int):=by omega
 exact (Rat.intCast_le_intCast (a:=1)).2 h
theorem tenR_mono {a b:Int} (h:a≤b):tenR a≤tenR b:=by
 obtain ⟨n,rfl⟩:∃ n:Nat,b=a+(n:Int):=⟨(b-a).toNat,by omega⟩
 rw [tenR_addn]
 have h1:=tenR_one n
 have h2:=zc4 a
 have h3:=Rat.mul_le_mul_of_nonneg_left h1 (Rat.le_of_lt h2)
 rw [Rat.mul_one] at h3
 exact h3
theorem tenR_lt {a b:Int} (h:tenR a<tenR b):a<b:=by
 rcases Int.lt_or_le a b with h1|h1
 ·exact h1
 ·exact absurd (tenR_mono h1) (Rat.not_le.2 h)
theorem size_hi {x:Rat} (hp:0<x.num):x<tenR (((T x.num.natAbs).size:Int)-((T x.den).size:Int)+1):=by
 have ha:=size_lt x.num.natAbs
 have hb:=size_ge x.den_pos
 have hsb:=zaN x.den
 generalize (T x.num.natAbs).size=sa at *
 generalize (T x.den).size=sb at *
 have e1:tenR (sa:Int)=tenR ((sa:Int)-sb+1)*tenR (((sb-1:Nat)):Int):=by
  rw [←zb3]; congr 1; omega
 have h1:(x.num:Rat)<tenR (sa:Int):=by
  rw [zbm]; exact Rat.intCast_lt_intCast.2 (by omega)
 have h2:tenR (((sb-1:Nat)):Int)≤((x.den:Int):Rat):=by
  rw [zbm]; exact Rat.intCast_le_intCast.2 (by omega)
 have h3:x*((x.den:Int):Rat)=(x.num:Rat):=by
  exact r_den x
 have hx:0<x:=r_pos.1 hp
 have h4:=Rat.mul_le_mul_of_nonneg_left h2 (Rat.le_of_lt hx)
 rw [h3] at h4
 have h5:x*tenR (((sb-1:Nat)):Int)<tenR ((sa:Int)-sb+1)*tenR (((sb-1:Nat)):Int):=by
  rw [←e1]; exact r_trans h4 h1
 rcases r_cases x (tenR ((sa:Int)-sb+1)) with h6|h6
 ·exact h6
 ·have:=Rat.mul_le_mul_of_nonneg_right h6 (Rat.le_of_lt (zc4 (((sb-1:Nat)):Int)))
  exact absurd this (Rat.not_le.2 h5)
theorem expR_spec {x:Rat} (hp:0<x.num):tenR (expR x)≤x∧x<tenR (expR x+1):=by
 have h1:=exp_low hp
 have h2:=size_hi hp
 have hV:expR x=if cmpR x (tenR (((T x.num.natAbs).size:Int)-((T x.den).size:Int)))<0 then ((T x.num.natAbs).size:Int)-((T x.den).size:Int)-1 else ((T x.num.natAbs).size:Int)-((T x.den).size:Int):=rfl
 rw [hV]
 generalize ((T x.num.natAbs).size:Int)-((T x.den).size:Int)=e at *
 by_cases h:cmpR x (tenR e)<0
 ·rw [if_pos h]
  refine ⟨?_,?_⟩
  ·rcases r_cases x (tenR (e-1)) with h3|h3
   ·have:=cmpR_lt0.2 h3; omega
   ·exact h3
  ·rw [show e-1+1=e by omega]; exact cmpR_lt0.1 h
 ·rw [if_neg h]
  refine ⟨?_,h2⟩
  rcases r_cases x (tenR e) with h3|h3
  ·exact absurd (cmpR_lt0.2 h3) h
  ·exact h3
theorem expR_unique {x:Rat} {e:Int} (hp:0<x.num) (h1:tenR e≤x) (h2:x<tenR (e+1)):expR x=e:=by
 obtain ⟨h3,h4⟩:=expR_spec hp
 have a:=tenR_lt (r_trans h1 h4)
 have b:=tenR_lt (r_trans h3 h2)
 omega
theorem evenR_int (m:Int):evenR ((m:Int):Rat)=m:=by
 rw [even_eq]
 show (if ((1:Nat):Int)<2*(m%((1:Nat):Int))∨(2*(m%((1:Nat):Int))=((1:Nat):Int)∧(m/((1:Nat):Int)).natAbs%2=1) then m/((1:Nat):Int)+1 else m/((1:Nat):Int))=m
 rw [if_neg (by omega)]
 omega
theorem zdJ {m n:Nat} (hn:1≤n) (h1:10^(n-1)≤m) (h2:m<10^n):(T m).size=n:=by
 have a:=(zas (k:=n) (n:=m) (by omega)).2 h2
 rcases Nat.lt_or_ge (T m).size n with h|h
 ·have hp:=zaN m
  have b:=(zas (k:=n-1) (n:=m) (by omega)).1 (by omega)
  omega
 ·omega
theorem T_cut {m n:Nat} (hm:0<m) (hs:(T m).size=n):(T (10*m)).extract 0 n=T m:=by
 have e:(T (10*m)).data.toList=(T m).data.toList ++ [48]:=by
  rw [T_data,T_data]
  have:=zcL (m:=m) (d:=0) hm (by decide)
  rw [Nat.add_zero] at this
  exact this
 apply ByteArray.ext
 apply Array.ext'
 simp only [ByteArray.data_extract,Array.toList_extract,List.extract_eq_take_drop]
 rw [e,List.drop_zero,Nat.sub_zero,List.take_append_of_le_length (by rw [zak]; omega),List.take_of_length_le (by rw [zak]; omega)]
theorem rnd_spec {x:Rat} {n:Nat} (hp:0<x.num) (hn:1≤n):∃ (m:Nat) (e:Int),rndR x (n:Int)=(T m,e)∧10^(n-1)≤m∧m<10^n∧expR x≤e∧e≤expR x+1 ∧
  (x-((m:Int):Rat)*tenR (e-n+1))*tenR (n:Int)≤5*(((m:Int):Rat)*tenR (e-n+1))∧(((m:Int):Rat)*tenR (e-n+1)-x)*tenR (n:Int)≤5*(((m:Int):Rat)*tenR (e-n+1)):=by
 obtain ⟨hl,hh⟩:=expR_spec hp
 have hV:rndR x (n:Int)=if (n:Int)<((wtext (evenR (x*tenR ((n:Int)-1-expR x)))).size:Int) then ((wtext (evenR (x*tenR ((n:Int)-1-expR x)))).extract 0 (n:Int).toNat,expR x+1) else (wtext (evenR (x*tenR ((n:Int)-1-expR x))),expR x):=rfl
 generalize expR x=e0 at *
 obtain ⟨v1,v2⟩:=even_half (x*tenR ((n:Int)-1-e0))
 have t0:=zc4 ((n:Int)-1-e0)
 have z1:tenR ((n-1:Nat):Int)≤x*tenR ((n:Int)-1-e0):=by
  have h:=Rat.mul_le_mul_of_nonneg_right hl (Rat.le_of_lt t0)
  rw [←zb3,show e0+((n:Int)-1-e0)=((n-1:Nat):Int) by omega] at h
  exact h
 have z2:x*tenR ((n:Int)-1-e0)<tenR (n:Int):=by
  have h:=Rat.mul_lt_mul_of_pos_right hh t0
  rw [←zb3,show e0+1+((n:Int)-1-e0)=(n:Int) by omega] at h
  exact h
 have xz:x=x*tenR ((n:Int)-1-e0)*tenR (e0-n+1):=by
  rw [Rat.mul_assoc,←zb3,show (n:Int)-1-e0+(e0-n+1)=0 by omega,zcE,Rat.mul_one]
 generalize x*tenR ((n:Int)-1-e0)=z at *
 have q0:=zc4 (e0-n+1)
 have t1:tenR (e0-n+1)*tenR (n:Int)=tenR e0*10:=by rw [←zb3,←zdk]; congr 1; omega
 have t2:tenR ((n-1:Nat):Int)*tenR (e0-n+1)=tenR e0:=by rw [←zb3]; congr 1; omega
 have te:=zc4 e0
 have hM1:((10^(n-1):Nat):Int)≤evenR z:=by
  rcases Int.lt_or_le (evenR z) ((10^(n-1):Nat):Int) with h|h
  ·have h2:((evenR z+1:Int):Rat)≤(((10^(n-1):Nat):Int):Rat):=Rat.intCast_le_intCast.2 (by omega)
   rw [Rat.intCast_add] at h2
   rw [zbm] at z1
   have e1:((1:Int):Rat)=1:=rfl
   rw [e1] at h2
   generalize ((evenR z:Int):Rat)=M at *
   generalize (((10^(n-1):Nat):Int):Rat)=P at *
   exfalso; grind
  ·exact h
 have hM2:evenR z≤((10^n:Nat):Int):=by
  rcases Int.lt_or_le ((10^n:Nat):Int) (evenR z) with h|h
  ·have h2:((((10^n:Nat):Int)+1:Int):Rat)≤((evenR z:Int):Rat):=Rat.intCast_le_intCast.2 (by omega)
   rw [Rat.intCast_add] at h2
   rw [zbm] at z2
   have e1:((1:Int):Rat)=1:=rfl
   rw [e1] at h2
   generalize ((evenR z:Int):Rat)=M at *
   generalize (((10^n:Nat):Int):Rat)=P at *
   exfalso; grind
  ·exact h
 obtain ⟨m0,hm0⟩:∃ m0:Nat,evenR z=(m0:Int):=⟨(evenR z).toNat,by have h0:(0:Int)≤((10^(n-1):Nat):Int):=Int.natCast_nonneg _; generalize ((10^(n-1):Nat):Int)=P at *; omega⟩
 rw [hm0] at hM1 hM2 hV v1 v2
 have hw:wtext (m0:Int)=T m0:=by rw [zaK (by omega),Int.natAbs_natCast]
 rw [hw] at hV
 have near:(x-((m0:Int):Rat)*tenR (e0-n+1))*tenR (n:Int)≤5*(((m0:Int):Rat)*tenR (e0-n+1))∧(((m0:Int):Rat)*tenR (e0-n+1)-x)*tenR (n:Int)≤5*(((m0:Int):Rat)*tenR (e0-n+1)):=by
  have hq:tenR ((n-1:Nat):Int)≤((m0:Int):Rat):=by rw [zbm]; exact Rat.intCast_le_intCast.2 hM1
  have hq2:=Rat.mul_le_mul_of_nonneg_right hq (Rat.le_of_lt q0)
  rw [t2] at hq2
  have w1:=Rat.mul_le_mul_of_nonneg_right v1 (Rat.le_of_lt te)
  have w2:=Rat.mul_le_mul_of_nonneg_right v2 (Rat.le_of_lt te)
  have k1:(x-((m0:Int):Rat)*tenR (e0-n+1))*tenR (n:Int)=(z-((m0:Int):Rat))*(tenR e0*10):=by
   rw [←t1]; conv=>lhs; rw [xz]
   grind
  have k2:(((m0:Int):Rat)*tenR (e0-n+1)-x)*tenR (n:Int)=(((m0:Int):Rat)-z)*(tenR e0*10):=by
   rw [←t1]; conv=>lhs; rw [xz]
   grind
  rw [k1,k2]
  generalize ((m0:Int):Rat)=M at *
  generalize tenR e0=t at *
  clear k1 k2 t1 t2 z1 z2 hq v1 v2 hl hh
  constructor<;>grind
 by_cases hc:m0<10^n
 ·have hs:=zdJ hn (by omega) hc
  refine ⟨m0,e0,?_,by omega,hc,by omega,by omega,near⟩
  rw [hV,if_neg (by omega)]
 ·have hm:m0=10*10^(n-1):=by
   have:10^n=10^(n-1)*10:=by rw [←Nat.pow_succ]; congr 1; omega
   omega
  have hpp:0<10^(n-1):=Nat.pow_pos (by decide)
  have hlt:10^(n-1)<10^n:=Nat.pow_lt_pow_right (by decide) (by omega)
  have hs:=zdJ hn (Nat.le_refl _) hlt
  have hsz:(n:Int)<((T m0).size:Int):=by
   rcases Nat.lt_or_ge n (T m0).size with h|h
   ·omega
   ·have:=(zas (k:=n) (by omega)).1 h; omega
  have hy:((((10^(n-1):Nat)):Int):Rat)*tenR (e0+1-n+1)=((m0:Int):Rat)*tenR (e0-n+1):=by
   rw [show e0+1-n+1=(e0-n+1)+1 by omega,zdk,hm,Int.natCast_mul,Rat.intCast_mul]
   have e10:(((10:Nat):Int):Rat)=10:=rfl
   rw [e10]; grind
  refine ⟨10^(n-1),e0+1,?_,Nat.le_refl _,hlt,by omega,by omega,?_⟩
  ·rw [hV,if_pos hsz,Int.toNat_natCast,hm,T_cut hpp hs]
  ·rw [hy]; exact near
theorem y_pos {m:Nat} (hm:0<m) (k:Int):0<(((m:Int):Rat)*tenR k).num:=by
 rw [r_pos]
 have h1:(0:Rat)<((m:Int):Rat):=Rat.intCast_lt_intCast (a:=0) |>.2 (by omega)
 exact Rat.mul_pos h1 (zc4 k)
theorem rnd_again {m n:Nat} {e:Int} (hn:1≤n) (h1:10^(n-1)≤m) (h2:m<10^n):rndR (((m:Int):Rat)*tenR (e-n+1)) (n:Int)=(T m,e):=by
 have hpp:0<10^(n-1):=Nat.pow_pos (by decide)
 have hp:=y_pos (m:=m) (by omega) (e-n+1)
 have q0:=zc4 (e-n+1)
 have he:expR (((m:Int):Rat)*tenR (e-n+1))=e:=by
  refine expR_unique hp ?_ ?_
  ·have h:tenR ((n-1:Nat):Int)≤((m:Int):Rat):=by rw [zbm]; exact Rat.intCast_le_intCast.2 (by omega)
   have h3:=Rat.mul_le_mul_of_nonneg_right h (Rat.le_of_lt q0)
   rw [←zb3,show ((n-1:Nat):Int)+(e-n+1)=e by omega] at h3
   exact h3
  ·have h:((m:Int):Rat)<tenR (n:Int):=by rw [zbm]; exact Rat.intCast_lt_intCast.2 (by omega)
   have h3:=Rat.mul_lt_mul_of_pos_right h q0
   rw [←zb3,show (n:Int)+(e-n+1)=e+1 by omega] at h3
   exact h3
 unfold rndR
 dsimp only
 rw [he,Rat.mul_assoc,←zb3,show e-n+1+((n:Int)-1-e)=0 by omega,zcE,Rat.mul_one,evenR_int]
 have hw:wtext (m:Int)=T m:=by rw [zaK (by omega),Int.natAbs_natCast]
 rw [hw,if_neg (by rw [zdJ hn h1 h2]; omega)]
theorem formE_seg {s:ByteArray} {f:Fm} {A X:List UInt8} {q:Bool} (hs:s.data.toList=A++101 :: (sgL q++X)) (ha:f.at_=A.length) (hb:f.bad=false) (hX:∀ c∈X,isD c=true) (hx:0<X.length) :
  ∃ x:ByteArray,x.data.toList=X∧formE s f = { f with at_:=A.length+1+(sgL q).length+X.length,bad:=false,exp:=x,minus:=q }:=by
 have hy:=sg_yes (f:=f) (set:=cE) hs ha hb (by decide)
 have hs2:s.data.toList=(A ++ [101])++(sgL q++X):=by rw [List.append_assoc]; exact hs
 have hal:({ f with at_:=A.length+1 }:Fm).at_=(A ++ [101]).length:=by show A.length+1=_; simp
 have hg:({ f with at_:=A.length+1 }:Fm).sgV s cPM=(if q then 45 else 0)∧({ f with at_:=A.length+1 }:Fm).sgn s cPM = { f with at_:=A.length+1+(sgL q).length }:=by
  cases q
  ·have h0:=sg_no (f:={ f with at_:=A.length+1 }) (set:=cPM) (A:=A ++ [101]) (B:=X) hs2 hal (fun c hc=>by
    cases X with
    | nil=>simp at hx
    | cons d t =>
     simp at hc
     subst hc
     have:=hX d (by simp)
     intro e
     have e2:d=43∨d=45:=by simpa [cPM] using e
     rcases e2 with rfl|rfl<;>revert this<;>decide)
   exact ⟨h0.1,h0.2⟩
  ·have hs3:s.data.toList=(A ++ [101])++45 :: X:=hs2
   have h0:=sg_yes (f:={ f with at_:=A.length+1 }) (set:=cPM) hs3 hal hb (by decide)
   refine ⟨h0.1,?_⟩
   rw [h0.2,List.length_append]
   rfl
 have hs4:s.data.toList=(A ++ [101]++sgL q)++(X ++ []):=by rw [List.append_nil,List.append_assoc]; exact hs2
 have hd:=dig_seg (f:={ f with at_:=A.length+1+(sgL q).length,minus:=q }) hs4 (by show A.length+1+(sgL q).length=_; rw [List.length_append,List.length_append]; rfl) hb hX hx (by simp)
 refine ⟨_,hd.2,?_⟩
 unfold formE
 rw [if_neg (by rw [hy.1]; decide),hy.2]
 dsimp only
 rw [hg.1,hg.2]
 have eq1:((if q=true then (45:Int) else 0) == 45)=q:=by cases q<;>rfl
 rw [eq1]
 have hdot:({ f with at_:=A.length+1+(sgL q).length,minus:=q }:Fm).bad=false:=hb
 rw [if_neg (by show ¬ f.bad=true; rw [hb]; decide)]
 rw [hd.1]
 simp only [List.length_append,List.length_cons,List.length_nil]
theorem formP_seg {s:ByteArray} {n:Bool} {m:ByteArray} {A E B:List UInt8} (hs:s.data.toList=A++46 :: (E++B)) (hE:∀ c∈E,isD c=true) (he:0<E.length) (hB:∀ c,B.head? = some c→isD c=false) :
  ∃ t:ByteArray,t.data.toList=E∧formP s { F0 with at_:=A.length,neg:=n,m:=m } = { F0 with at_:=A.length+1+E.length,neg:=n,m:=m++t,behind:=E.length }:=by
 have hy:=sg_yes (f:={ F0 with at_:=A.length,neg:=n,m:=m }) (set:=cP) hs rfl rfl (by decide)
 have hs3:s.data.toList=(A ++ [46])++(E++B):=by rw [List.append_assoc]; exact hs
 have hd:=dig_seg (f:={ F0 with at_:=A.length+1,neg:=n,m:=m }) hs3 (by show A.length+1=_; simp) rfl hE he hB
 have hsz:(({ F0 with at_:=A.length+1,neg:=n,m:=m }:Fm).digT s).size=E.length:=by rw [←zak,hd.2]
 refine ⟨_,hd.2,?_⟩
 unfold formP
 rw [if_neg (by rw [hy.1]; decide),hy.2]
 show ({ (({ F0 with at_:=A.length+1,neg:=n,m:=m }:Fm).dig s) with behind:=(({ F0 with at_:=A.length+1,neg:=n,m:=m }:Fm).digT s).size,m:=m++({ F0 with at_:=A.length+1,neg:=n,m:=m }:Fm).digT s }:Fm)=_
 rw [hd.1,hsz]
 simp only [List.length_append,List.length_cons,List.length_nil]
 rfl
theorem form_exp {s:ByteArray} {n q:Bool} {D P E X:List UInt8} (hs:s.data.toList=sgL n++(D++(P++101 :: (sgL q++X)))) (hP:(P = []∧E = [])∨(P=46 :: E∧0<E.length)) (hD:∀ c∈D,isD c=true) (hn:0<D.length) (hE:∀ c∈E,isD c=true) (hX:∀ c∈X,isD c=true) (hx:0<X.length) :
  ∃ m x:ByteArray,m.data.toList=D++E∧x.data.toList=X∧formF s = { F0 with at_:=s.size,neg:=n,m:=m,behind:=E.length,exp:=x,minus:=q }:=by
 have hsz:s.size=(sgL n).length+(D.length+(P.length+((sgL q).length+X.length+1))):=by
  rw [←zak,hs]; simp only [List.length_append,List.length_cons]
 obtain ⟨m,hm,h1⟩:=zdy (s:=s) (n:=n) (D:=D) (B:=P++101 :: (sgL q++X)) hs hD hn (fun c hc=>by
  rcases hP with ⟨rfl,rfl⟩|⟨rfl,h⟩
  ·cases hc; decide
  ·cases hc; decide)
 have hs2:s.data.toList=(sgL n++D)++(P++101 :: (sgL q++X)):=by rw [List.append_assoc]; exact hs
 have ha:(form1 s).at_=(sgL n++D).length:=by rw [h1,List.length_append]
 have hno:=sg_no (f:=form1 s) (set:=cS) hs2 ha (fun c hc=>by
  rcases hP with ⟨rfl,rfl⟩|⟨rfl,h⟩
  ·cases hc; decide
  ·cases hc; decide)
 unfold formF
 rw [if_pos hno.1,hno.2]
 rcases hP with ⟨rfl,rfl⟩|⟨rfl,he⟩
 ·have hp:formP s (form1 s)=form1 s:=by
   have no:=sg_no (f:=form1 s) (set:=cP) hs2 ha (fun c hc=>by cases hc; decide)
   unfold formP; rw [if_pos no.1,no.2]
  rw [hp]
  obtain ⟨x,hx1,hx2⟩:=formE_seg (f:=form1 s) (A:=sgL n++D) (q:=q) (X:=X) hs2 ha (by rw [h1]; rfl) hX hx
  refine ⟨m,x,by rw [List.append_nil]; exact hm,hx1,?_⟩
  rw [hx2,h1]
  have e:(sgL n++D).length+1+(sgL q).length+X.length=s.size:=by rw [hsz,List.length_append,List.length_nil]; omega
  rw [e]; rfl
 ·have hs5:s.data.toList=(sgL n++D)++46 :: (E++101 :: (sgL q++X)):=hs2
  obtain ⟨t,ht1,ht2⟩:=formP_seg (n:=n) (m:=m) hs5 hE he (fun c hc=>by cases hc; decide)
  have h2:form1 s = { F0 with at_:=(sgL n++D).length,neg:=n,m:=m }:=by rw [h1,List.length_append]
  rw [h2,ht2]
  have hs6:s.data.toList=(sgL n++D++46 :: E)++101 :: (sgL q++X):=by rw [List.append_assoc]; exact hs5
  obtain ⟨x,hx1,hx2⟩:=formE_seg (f:={ F0 with at_:=(sgL n++D).length+1+E.length,neg:=n,m:=m++t,behind:=E.length }) (q:=q) (X:=X) hs6 (by show (sgL n++D).length+1+E.length=_; simp only [List.length_append,List.length_cons]; omega) rfl hX hx
  refine ⟨m++t,x,by rw [ByteArray.data_append,Array.toList_append,hm,ht1],hx1,?_⟩
  rw [hx2]
  have e:(sgL n++D++46 :: E).length+1+(sgL q).length+X.length=s.size:=by rw [hsz]; simp only [List.length_append,List.length_cons]; omega
  rw [e]
  rfl
theorem ext_list (d:ByteArray) (a b:Nat):(d.extract a b).data.toList=(d.data.toList.drop a).take (b-a):=by
 simp only [ByteArray.data_extract,Array.toList_extract,List.extract_eq_take_drop]
theorem ext_head (d:ByteArray) (k:Nat):(d.extract 0 k).data.toList=d.data.toList.take k:=by rw [ext_list,List.drop_zero,Nat.sub_zero]
theorem ext_tail (d:ByteArray) (k:Nat):(d.extract k d.size).data.toList=d.data.toList.drop k:=by
 rw [ext_list,List.take_of_length_le (by rw [List.length_drop,zak]; omega)]
theorem zbJ (a b:ByteArray):(a++b).data.toList=a.data.toList++b.data.toList:=by rw [ByteArray.data_append,Array.toList_append]
theorem zer_list (k:Nat):(zer k).data.toList=List.replicate k 48:=by unfold zer; simp
theorem dval_tail0 (l:List UInt8) (j:Nat):dval (l++List.replicate j 48)=dval l*10^j:=by
 rw [za7,dval_zeros,List.length_replicate]; omega
structure Rd (s:ByteArray) (neg:Bool) (m n:Nat) (e:Int):Prop where
 size:s.size≤65536
 fin:(formF s).end_ s=true
 frac:(formF s).fraction=false
 neg:(formF s).neg=neg
 dec:(decF (formF s)=scaleF m (e-n+1))∨(∃ j:Nat,e-n+1=j∧j≤6∧decF (formF s)=scaleF (m*10^j) 0)
theorem dec_plain {f:Fm} (h:f.exp=⟨#[]⟩):decF f=scaleF (dval f.m.data.toList) (0-(f.behind:Int)):=by
 unfold decF expE
 rw [h,if_pos (show (⟨#[]⟩:ByteArray).size=0 from rfl),Option.bind_some]
theorem end_of {s:ByteArray} {f:Fm} (hb:f.bad=false) (h:f.at_=s.size):f.end_ s=true:=by
 unfold Fm.end_
 rw [hb]
 exact decide_eq_true h
theorem sgL_le (b:Bool):(sgL b).length≤1:=by unfold sgL; split<;>simp
theorem read_plc {s it:ByteArray} {neg:Bool} {m n:Nat} {e:Int} (hn:1≤n) (hn2:n≤40) (hsz:(T m).size=n) (h0 : -700≤e) (h1:e≤700) (hit:it.data.toList=Lib.itoa e) (hs:s.data.toList=sgL neg++(plcR (T m) e it).data.toList):Rd s neg m n e:=by
 have hl:(T m).data.toList.length=n:=by rw [zak]; exact hsz
 have hD:∀ c∈(T m).data.toList,isD c=true:=T_dig m
 have hv:dval (T m).data.toList=m:=za8 m
 have hsl:=sgL_le neg
 unfold plcR at hs
 rw [hsz] at hs
 by_cases c1:e < -5∨max (n:Int) 6≤e
 ·rw [if_pos c1] at hs
  have hX:∀ c∈decl e.natAbs,isD c=true:=isD_of (dig_decl _)
  have hx:=za2 e.natAbs
  have hxl:(decl e.natAbs).length≤3:=(zbf (by decide)).2 (by omega)
  rw [zbJ,zbJ,hit,itoa_eq] at hs
  generalize hU:(T m).data.toList=U at *
  have hU1:((T m).extract 0 1).data.toList=U.take 1:=by rw [ext_head,hU]
  have hU2:((T m).extract 1 n).data.toList=U.drop 1:=by rw [←hsz,ext_tail,hU]
  have hcut:∃ P E:List UInt8,(if 1<n then (T m).extract 0 1++((⟨#[46]⟩:ByteArray)++(T m).extract 1 n) else (T m).extract 0 1).data.toList=U.take 1++P∧((P = []∧E = [])∨(P=46 :: E∧0<E.length))∧U.take 1++E=U∧E.length=n-1:=by
   by_cases h:1<n
   ·refine ⟨46 :: U.drop 1,U.drop 1,?_,Or.inr ⟨rfl,by rw [List.length_drop]; omega⟩,List.take_append_drop 1 U,by rw [List.length_drop]; omega⟩
    rw [if_pos h,zbJ,zbJ,hU1,hU2]; rfl
   ·refine ⟨[],[],?_,Or.inl ⟨rfl,rfl⟩,?_,by simp; omega⟩
    ·rw [if_neg h,hU1,List.append_nil]
    ·rw [List.append_nil,List.take_of_length_le (by omega)]
  obtain ⟨P,E,hP1,hP2,hP3,hP4⟩:=hcut
  rw [hP1] at hs
  have hs2:s.data.toList=sgL neg++(U.take 1++(P++101 :: (sgL (decide (e<0))++decl e.natAbs))):=by
   rw [hs]
   show sgL neg++(((U.take 1++P) ++ [101])++(sgL (decide (e<0))++decl e.natAbs))=_
   simp only [List.append_assoc,List.singleton_append]
  have hPl:P.length≤n:=by rcases hP2 with ⟨rfl,rfl⟩|⟨rfl,h⟩<;>simp<;>omega
  have hss:s.size≤65536:=by
   have hq:=sgL_le (decide (e<0))
   rw [←zak,hs2]
   simp only [List.length_append,List.length_cons,List.length_take]
   omega
  obtain ⟨mm,x,k1,k2,k3⟩:=form_exp hs2 hP2 (fun c hc=>hD c (List.mem_of_mem_take hc)) (by rw [List.length_take]; omega) (fun c hc=>hD c (by rw [←hP3]; exact List.mem_append_right _ hc)) hX hx
  refine ⟨hss,?_,by rw [k3]; first|done|rfl,by rw [k3],Or.inl ?_⟩
  ·rw [k3]; exact end_of rfl rfl
  ·rw [k3]
   unfold decF expE
   have hxs:x.size≠0:=by rw [←zak,k2]; omega
   have hxv:dval x.data.toList=e.natAbs:=by rw [k2,dval_decl]
   show (if x.size=0 then some 0 else if 4096<dval x.data.toList then none else some (if decide (e<0)=true then -(dval x.data.toList:Int) else (dval x.data.toList:Int))).bind _=_
   rw [if_neg hxs,hxv,if_neg (by omega),Option.bind_some]
   show scaleF (dval mm.data.toList) (_-(E.length:Int))=_
   rw [k1,hP3,hv,hP4]
   congr 1
   by_cases hne:e<0
   ·rw [decide_eq_true hne,if_pos rfl]; omega
   ·rw [decide_eq_false hne,if_neg (by decide)]; omega
 ·rw [if_neg c1] at hs
  by_cases c2:e<0
  ·rw [if_pos c2] at hs
   rw [zbJ,zbJ,zer_list] at hs
   have hs2:s.data.toList=sgL neg++(([48]:List UInt8)++46 :: (List.replicate (-e-1).toNat 48++(T m).data.toList)):=by rw [hs]; rfl
   have hE:∀ c∈List.replicate (-e-1).toNat 48++(T m).data.toList,isD c=true:=fun c hc=>by
    rcases List.mem_append.1 hc with h|h
    ·rw [(List.mem_replicate.1 h).2]; rfl
    ·exact hD c h
   obtain ⟨mm,k1,k2⟩:=form_point hs2 (fun c hc=>by simp at hc; subst hc; rfl) (by decide) hE (by rw [List.length_append,hl]; omega)
   have hsS:s.size=(sgL neg).length+(1+((-e-1).toNat+n+1)):=by
    rw [←zak,hs2]; simp only [List.length_append,List.length_cons,List.length_nil,List.length_replicate,hl]
   refine ⟨by omega,?_,by rw [k2]; first|done|rfl,by rw [k2]; first|done|rfl,Or.inl ?_⟩
   ·rw [k2]; refine end_of rfl ?_
    show (sgL neg).length+([48]:List UInt8).length+1+_=_
    rw [hsS,List.length_append,List.length_replicate,hl]; simp only [List.length_cons,List.length_nil]; omega
   ·rw [k2,dec_plain rfl]
    show scaleF (dval mm.data.toList) (0-((List.replicate (-e-1).toNat (48:UInt8)++(T m).data.toList).length:Int))=_
    rw [k1]
    have e1:dval (([48]:List UInt8)++(List.replicate (-e-1).toNat 48++(T m).data.toList))=m:=by
     rw [za7,za7,hv,dval_zeros]
     show 0*_+_=m
     omega
    rw [e1,List.length_append,List.length_replicate,hl]
    congr 1; omega
  ·rw [if_neg c2] at hs
   by_cases c3:(n:Int)-1≤e
   ·rw [if_pos c3,zbJ,zer_list] at hs
    have hE:∀ c∈(T m).data.toList++List.replicate (e-n+1).toNat 48,isD c=true:=fun c hc=>by
     rcases List.mem_append.1 hc with h|h
     ·exact hD c h
     ·rw [(List.mem_replicate.1 h).2]; rfl
    obtain ⟨mm,k1,k2⟩:=form_int hs hE (by rw [List.length_append,hl]; omega)
    have hsS:s.size=(sgL neg).length+(n+(e-n+1).toNat):=by
     rw [←zak,hs]; simp only [List.length_append,List.length_replicate,hl]
    refine ⟨by omega,?_,by rw [k2]; first|done|rfl,by rw [k2]; first|done|rfl,Or.inr ⟨(e-n+1).toNat,by omega,by omega,?_⟩⟩
    ·rw [k2]; refine end_of rfl ?_
     show (sgL neg).length+_=_
     rw [hsS,List.length_append,List.length_replicate,hl]
    ·rw [k2,dec_plain rfl]
     show scaleF (dval mm.data.toList) (0-((0:Nat):Int))=_
     rw [k1,dval_tail0,hv]; rfl
   ·rw [if_neg c3,zbJ,zbJ,ext_head,←hsz,ext_tail] at hs
    have hs2:s.data.toList=sgL neg++((T m).data.toList.take (e+1).toNat++46 :: (T m).data.toList.drop (e+1).toNat):=by
     rw [hs,List.append_assoc]; rfl
    obtain ⟨mm,k1,k2⟩:=form_point hs2 (fun c hc=>hD c (List.mem_of_mem_take hc)) (by rw [List.length_take]; omega) (fun c hc=>hD c (List.mem_of_mem_drop hc)) (by rw [List.length_drop]; omega)
    have hsS:s.size=(sgL neg).length+(n+1):=by
     rw [←zak,hs2]; simp only [List.length_append,List.length_cons,List.length_take,List.length_drop,hl]; omega
    refine ⟨by omega,?_,by rw [k2]; first|done|rfl,by rw [k2]; first|done|rfl,Or.inl ?_⟩
    ·rw [k2]; refine end_of rfl ?_
     show (sgL neg).length+_+1+_=_
     rw [hsS,List.length_take,List.length_drop,hl]; omega
    ·rw [k2,dec_plain rfl]
     show scaleF (dval mm.data.toList) (0-(((T m).data.toList.drop (e+1).toNat).length:Int))=_
     rw [k1,List.take_append_drop,hv,List.length_drop,hl]
     congr 1; omega
theorem ten_val (m j:Nat) (k:Int) (h:k=j):(((m*10^j:Nat):Int):Rat)*tenR 0=((m:Int):Rat)*tenR k:=by
 subst h
 rw [zcE,Rat.mul_one,zbm,Int.natCast_mul,Rat.intCast_mul]
noncomputable def yR (neg:Bool) (m:Nat) (k:Int):Rat:=if neg then -(((m:Int):Rat)*tenR k) else ((m:Int):Rat)*tenR k
theorem yR_abs {m:Nat} (hm:0<m) (neg:Bool) (k:Int):(yR neg m k).abs=((m:Int):Rat)*tenR k:=by
 have h:=r_pos.1 (y_pos hm k)
 have h2:=r_pos.2 h
 unfold yR Rat.abs
 generalize ((m:Int):Rat)*tenR k=y at *
 cases neg
 ·show (if 0≤y then y else -y)=y
  rw [if_pos (Rat.le_of_lt h)]
 ·show (if 0 ≤ -y then -y else - -y)=y
  rw [if_neg (by intro h3; have:=Rat.num_nonneg.2 h3; rw [Rat.neg_num] at this; omega),Rat.neg_neg]
theorem yR_neg {m:Nat} (hm:0<m) (neg:Bool) (k:Int):decide ((yR neg m k).num<0)=neg:=by
 have h:=y_pos hm k
 unfold yR
 generalize ((m:Int):Rat)*tenR k=y at *
 cases neg
 ·rw [if_neg (by decide)]; exact decide_eq_false (by omega)
 ·rw [if_pos rfl]; exact decide_eq_true (by rw [Rat.neg_num]; omega)
theorem yR_sz {m n:Nat} {e:Int} (neg:Bool) (hn:1≤n) (hn2:n≤40) (h2:m<10^n) (k1:¬ (e-n+1 ≤ -600)) (k2:¬ 600≤e):Sz 600 (yR neg m (e-n+1)):=by
 have hb:Sz 600 (((m:Int):Rat)*tenR (e-n+1)):=by
  by_cases h:0≤e-n+1
  ·obtain ⟨j,hj⟩:∃ j:Nat,e-n+1=(j:Int):=⟨(e-n+1).toNat,by omega⟩
   rw [hj,←ten_val m j _ rfl,zcE,Rat.mul_one]
   refine ⟨?_,?_⟩
   ·show (T ((m*10^j:Nat):Int).natAbs).size≤600
    rw [Int.natAbs_natCast]
    refine (zas (by decide)).2 ?_
    have e1:m*10^j<10^n*10^j:=Nat.mul_lt_mul_of_pos_right h2 (Nat.pow_pos (by decide))
    rw [←Nat.pow_add] at e1
    exact Nat.lt_of_lt_of_le e1 (Nat.pow_le_pow_right (by decide) (by omega))
   ·show (T 1).size≤600
    exact (zas (by decide)).2 (Nat.lt_of_lt_of_le (show 1<10^1 by decide) (Nat.pow_le_pow_right (by decide) (by decide)))
  ·obtain ⟨j,hj⟩:∃ j:Nat,e-n+1 = -(j:Int):=⟨(-(e-n+1)).toNat,by omega⟩
   rw [hj,tenR_neg j (by omega),zcy,Rat.divInt_mul_divInt,Int.mul_one,Int.one_mul]
   have h3:=sz_div (s:=false) (a:=m) (b:=10^j) (k:=600) (Nat.pow_pos (by decide)) ?_ ?_
   ·exact h3
   ·exact (zas (by decide)).2 (Nat.lt_of_lt_of_le h2 (Nat.pow_le_pow_right (by decide) (by omega)))
   ·rw [zcZ]; omega
 unfold yR
 split
 ·exact neg_sz hb
 ·exact hb
theorem sz_sm {x:Rat} (h:Sz 600 x):Sm x:=⟨(zas (k:=600) (by decide)).1 h.1,(zas (k:=600) (by decide)).1 h.2⟩
theorem signed_y (f:Fm) (neg:Bool) (m:Nat) (k:Int) (hf:f.neg=neg):signed f (((m:Int):Rat)*tenR k)=yR neg m k:=by
 unfold signed yR
 rw [hf]
theorem parse_show {s it:ByteArray} {neg:Bool} {m n:Nat} {e:Int} (hn:1≤n) (hn2:n≤40) (hm1:10^(n-1)≤m) (hm2:m<10^n) (h0 : -700≤e) (h1:e≤700) (hit:it.data.toList=Lib.itoa e) (hs:s.data.toList=sgL neg++(plcR (T m) e it).data.toList) :
  ((e-n+1 ≤ -600∨600≤e)∧parseF s=(⟨#[]⟩,⟨#[]⟩,7,0))∨(Sm (yR neg m (e-n+1))∧parseF s=(wtext (yR neg m (e-n+1)).num,T (yR neg m (e-n+1)).den,0,0)):=by
 have hsz:=zdJ hn hm1 hm2
 obtain ⟨r1,r2,r3,r4,r5⟩:=read_plc hn hn2 hsz h0 h1 hit hs
 have hpp:0<10^(n-1):=Nat.pow_pos (by decide)
 have hP:parseF s=toldP (formF s) (decF (formF s)):=by
  unfold parseF
  rw [if_neg (by omega),r2,if_neg (by decide),r3,if_neg (by decide)]
 have yes:∀ x:Rat,x=((m:Int):Rat)*tenR (e-n+1)→decF (formF s)=some x→Sm (yR neg m (e-n+1))→parseF s=(wtext (yR neg m (e-n+1)).num,T (yR neg m (e-n+1)).den,0,0):=fun x hx hd hsm=>by
  rw [hP,hd,hx]
  show ((toldR (signed (formF s) _)).1,(toldR (signed (formF s) _)).2.1,(toldR (signed (formF s) _)).2.2,(0:Int))=_
  rw [signed_y _ neg m _ r4,told_of hsm]
 rcases r5 with r5|⟨j,hj,hj6,r5⟩
 ·by_cases hc:600<(T m).size∨(e-n+1<0∧600<1-(e-n+1))∨(0≤e-n+1∧m≠0∧600<((T m).size:Int)+(e-n+1))
  ·left
   rw [zb4 hc] at r5
   refine ⟨by omega,?_⟩
   rw [hP,r5]; rfl
  ·right
   have hsm:=sz_sm (yR_sz (e:=e) neg hn hn2 hm2 (by omega) (by omega))
   exact ⟨hsm,yes _ rfl (r5.trans (za3 hc)) hsm⟩
 ·right
  have hsm:=sz_sm (yR_sz (e:=e) neg hn hn2 hm2 (by omega) (by omega))
  have hb:(T (m*10^j)).size≤46:=by
   refine (zas (by decide)).2 ?_
   have e1:m*10^j<10^n*10^j:=Nat.mul_lt_mul_of_pos_right hm2 (Nat.pow_pos (by decide))
   rw [←Nat.pow_add] at e1
   exact Nat.lt_of_lt_of_le e1 (Nat.pow_le_pow_right (by decide) (by omega))
  refine ⟨hsm,yes _ (ten_val m j _ hj) (r5.trans (za3 (by omega))) hsm⟩
end Go.Proofs.ZQ
end
section
namespace Go.Proofs.ZQ
open Go.RowKit Go.Proofs.ZW.Wa Go.Proofs.ZP Go.Proofs.ZW.Wb Go.Proofs.ZW.Wc
def Itoas (w:World):Prop:=∀ (e:Int),-100000≤e→e≤100000→∃ it:ByteArray,it.size≤1000∧∀ W,Below w.heap.size w W→Calls Tryz.prog 170 #[.int .i64 e] W fun r w'=>r = .returned (.string it)∧Below W.heap.size W w'
theorem Itoas.below {w w':World} (h:Itoas w) (hb:Below w.heap.size w w'):Itoas w':=fun e h0 h1=>by
 obtain ⟨it,h2,h3⟩:=h e h0 h1
 exact ⟨it,h2,fun W hW=>h3 W (bthen hb hW)⟩
theorem third_rr:RR ⟨#[49]⟩ ⟨#[51]⟩ (Rat.divInt 1 3):=by
 have h1:(Rat.divInt 1 3).num=1:=by decide
 have h2:(Rat.divInt 1 3).den=3:=by decide
 have k1:(1:Nat)<10^600:=Nat.lt_of_lt_of_le (show 1<10^1 by decide) (Nat.pow_le_pow_right (by decide) (by decide))
 have k3:(3:Nat)<10^600:=Nat.lt_of_lt_of_le (show 3<10^1 by decide) (Nat.pow_le_pow_right (by decide) (by decide))
 refine ⟨?_,?_,?_,?_⟩
 ·rw [h1,zaK (by decide)]; decide +kernel
 ·rw [h2]; decide +kernel
 ·rw [h1]; exact k1
 ·rw [h2]; exact k3
theorem third_abs:(Rat.divInt 1 3).abs=Rat.divInt 1 3:=by decide +kernel
theorem third_rnd:rndR (Rat.divInt 1 3) 3=(⟨#[51,51,51]⟩,-1):=by decide +kernel
theorem third_plc (it:ByteArray):plcR ⟨#[51,51,51]⟩ (-1) it=⟨#[48,46,51,51,51]⟩:=by
 unfold plcR
 rw [if_neg (by decide),if_pos (by decide)]
 decide +kernel
theorem known_third (w:World) (H:Itoas w):Calls Tryz.prog 19 #[.agg #[.string ⟨#[49]⟩,.string ⟨#[51]⟩],.int .i64 3] w fun r w'=>r = .returned (.tuple #[.string ⟨#[48,46,51,51,51]⟩,.int .i64 0])∧Below w.heap.size w w':=by
 obtain ⟨it,hit,HI⟩:=H (-1) (by decide) (by decide)
 have hne:Rat.divInt 1 3≠0:=by decide
 have h:=number_ok ⟨#[49]⟩ ⟨#[51]⟩ it (Rat.divInt 1 3) 3 w (by decide) (by decide) third_rr hne hit (by rw [third_abs,third_rnd]; exact HI)
 rw [third_abs,third_rnd,third_plc,if_neg (by decide)] at h
 have e:(⟨#[]⟩:ByteArray)++(⟨#[48,46,51,51,51]⟩:ByteArray)=⟨#[48,46,51,51,51]⟩:=by decide
 rw [e] at h
 exact h
theorem known25 (w:World) (H:Itoas w):Calls Tryz.prog 23 #[] w fun r w'=>r = .returned (.bool true)∧Below w.heap.size w w':=by
 have H3:=Lib.hid (fun W (h:Below w.heap.size w W)=>known_third W (H.below h))
 clear H
 go_enter Tryz.func23,Tryz.ntmps23
 have hba:=zaa (Below.refl w.heap.size w) (.cells #[.string ⟨#[49]⟩,.string ⟨#[51]⟩] 23)
 have fa:=RbAt.new w ⟨#[49]⟩ ⟨#[51]⟩
 have c0:=fa.c0
 have c1:=fa.c1
 go_wp2_with fail
 refine (H3.out _ (by first|exact hba|exact Below.refl _ _)).mono ?_
 rintro r w1 ⟨rfl,hb⟩
 have HB:=Lib.hid (show Below w.heap.size w w1 from by first|exact bthen hba hb|exact hb)
 clear hb hba fa c0 c1
 go_wp2
 go_ret
 exact ⟨rfl,HB.out⟩
theorem reads_no (a b d1 x1 x2:ByteArray) (x0:Bool) (n c m:Int) (w:World) (hm:wrap64 (1+c)=m)
  (HC:Ans 80 #[.int .i64 n,.int .i64 40] (.int .i64 c))
  (HN:∀ W,Below w.heap.size w W→Calls Tryz.prog 19 #[.agg #[.string a,.string b],.int .i64 m] W fun r w'=>r = .returned (.tuple #[.string d1,.int .i64 3])∧Below W.heap.size W w')
  (HF:Ans 22 #[.agg #[.string a,.string b]] (.tuple #[.agg #[.bool x0,.string x1,.string x2],.bool false]))
  (HK:∀ W,Below w.heap.size w W→Calls Tryz.prog 23 #[] W fun r w'=>r = .returned (.bool true)∧Below W.heap.size W w')
  : Calls Tryz.prog 18 #[.agg #[.string a,.string b],.int .i64 n] w fun r w'=>r = .returned (.bool true)∧Below w.heap.size w w':=by
 have HC:=Lib.hid HC
 have HN:=Lib.hid HN
 have HF:=Lib.hid HF
 have HK:=Lib.hid HK
 have HM:=Lib.hid hm
 clear hm
 go_enter Tryz.func18,Tryz.ntmps18
 have fa:=RbAt.new w a b
 have hba:=zaa (Below.refl w.heap.size w) (.cells #[.string a,.string b] 23)
 go_wp2_with fail
 generalize w.alloc (.cells #[.string a,.string b] 23)=W0 at *
 have HFa:=Lib.hid fa
 have HBA:=Lib.hid hba
 clear fa hba
 refine (HC.out _).mono ?_
 rintro r w1 ⟨rfl,hb⟩
 replace HFa:=Lib.hid (HFa.out.below hb)
 replace HBA:=Lib.hid (bthen HBA.out hb)
 clear hb
 have ca0:=HFa.out.c0
 have ca1:=HFa.out.c1
 go_wp2_with fail
 clear ca0 ca1
 rw [HM.out]
 refine (HN.out _ HBA.out).mono ?_
 rintro r w2 ⟨rfl,hb⟩
 replace HFa:=Lib.hid (HFa.out.below hb)
 replace HBA:=Lib.hid (bthen HBA.out hb)
 clear hb
 have ca0:=HFa.out.c0
 have ca1:=HFa.out.c1
 go_wp2_with fail
 clear ca0 ca1
 refine (HF.out _).mono ?_
 rintro r w3 ⟨rfl,hb⟩
 replace HFa:=Lib.hid ((HFa.out.below hb).alloc (.cells #[.bool x0,.string x1,.string x2] 28))
 have HFx:=Lib.hid (FcAt.new w3 x0 x1 x2)
 replace HBA:=Lib.hid (bthen (bthen HBA.out hb) (zaa (Below.refl _ _) (.cells #[.bool x0,.string x1,.string x2] 28)))
 clear hb
 go_wp2_with fail
 generalize w3.alloc (.cells #[.bool x0,.string x1,.string x2] 28)=v3 at *
 generalize w3.heap.size=Px at *
 refine (HK.out _ HBA.out).mono ?_
 rintro r w4 ⟨rfl,hb⟩
 replace HFa:=Lib.hid (HFa.out.below hb)
 replace HFx:=Lib.hid (HFx.out.below hb)
 replace HBA:=Lib.hid (bthen HBA.out hb)
 clear hb
 skip
 go_wp2
 go_ret
 exact ⟨rfl,HBA.out⟩
theorem reads_large (a b s x1 x2 y1 y2:ByteArray) (x0 y0:Bool) (n c m:Int) (w:World) (hm:wrap64 (1+c)=m) (hl:500<a.size+b.size) (hl2:a.size≤1000∧b.size≤1000)
  (HC:Ans 80 #[.int .i64 n,.int .i64 40] (.int .i64 c))
  (HN:∀ W,Below w.heap.size w W→Calls Tryz.prog 19 #[.agg #[.string a,.string b],.int .i64 m] W fun r w'=>r = .returned (.tuple #[.string s,.int .i64 0])∧Below W.heap.size W w')
  (HF:Ans 22 #[.agg #[.string a,.string b]] (.tuple #[.agg #[.bool x0,.string x1,.string x2],.bool true]))
  (HP:Ans 59 #[.string s] (.tuple #[.agg #[.string ⟨#[]⟩,.string ⟨#[]⟩],.int .i64 7,.int .i64 0]))
  (HG:Ans 22 #[.agg #[.string ⟨#[]⟩,.string ⟨#[]⟩]] (.tuple #[.agg #[.bool y0,.string y1,.string y2],.bool false]))
  (HK:∀ W,Below w.heap.size w W→Calls Tryz.prog 23 #[] W fun r w'=>r = .returned (.bool true)∧Below W.heap.size W w')
  : Calls Tryz.prog 18 #[.agg #[.string a,.string b],.int .i64 n] w fun r w'=>r = .returned (.bool true)∧Below w.heap.size w w':=by
 have HC:=Lib.hid HC
 have HN:=Lib.hid HN
 have HF:=Lib.hid HF
 have HP:=Lib.hid HP
 have HG:=Lib.hid HG
 have HK:=Lib.hid HK
 have HM:=Lib.hid hm
 clear hm
 have HL:=Lib.hid hl
 have HL2:=Lib.hid hl2
 clear hl hl2
 go_enter Tryz.func18,Tryz.ntmps18
 have fa:=RbAt.new w a b
 have hba:=zaa (Below.refl w.heap.size w) (.cells #[.string a,.string b] 23)
 go_wp2_with fail
 generalize w.alloc (.cells #[.string a,.string b] 23)=W0 at *
 have HFa:=Lib.hid fa
 have HBA:=Lib.hid hba
 clear fa hba
 refine (HC.out _).mono ?_
 rintro r w1 ⟨rfl,hb⟩
 replace HFa:=Lib.hid (HFa.out.below hb)
 replace HBA:=Lib.hid (bthen HBA.out hb)
 clear hb
 have ca0:=HFa.out.c0
 have ca1:=HFa.out.c1
 go_wp2_with fail
 clear ca0 ca1
 rw [HM.out]
 refine (HN.out _ HBA.out).mono ?_
 rintro r w2 ⟨rfl,hb⟩
 replace HFa:=Lib.hid (HFa.out.below hb)
 replace HBA:=Lib.hid (bthen HBA.out hb)
 clear hb
 have ca0:=HFa.out.c0
 have ca1:=HFa.out.c1
 go_wp2_with fail
 clear ca0 ca1
 refine (HF.out _).mono ?_
 rintro r w3 ⟨rfl,hb⟩
 replace HFa:=Lib.hid ((HFa.out.below hb).alloc (.cells #[.bool x0,.string x1,.string x2] 28))
 have HFx:=Lib.hid (FcAt.new w3 x0 x1 x2)
 replace HBA:=Lib.hid (bthen (bthen HBA.out hb) (zaa (Below.refl _ _) (.cells #[.bool x0,.string x1,.string x2] 28)))
 clear hb
 go_wp2_with fail
 generalize w3.alloc (.cells #[.bool x0,.string x1,.string x2] 28)=v3 at *
 generalize w3.heap.size=Px at *
 refine (HP.out _).mono ?_
 rintro r w4 ⟨rfl,hb⟩
 replace HFa:=Lib.hid ((HFa.out.below hb).alloc (.cells #[.string ⟨#[]⟩,.string ⟨#[]⟩] 23))
 replace HFx:=Lib.hid ((HFx.out.below hb).alloc (.cells #[.string ⟨#[]⟩,.string ⟨#[]⟩] 23))
 have HFt:=Lib.hid (RbAt.new w4 ⟨#[]⟩ ⟨#[]⟩)
 replace HBA:=Lib.hid (bthen (bthen HBA.out hb) (zaa (Below.refl _ _) (.cells #[.string ⟨#[]⟩,.string ⟨#[]⟩] 23)))
 clear hb
 have ct0:=HFt.out.c0
 have ct1:=HFt.out.c1
 go_wp2_with fail
 clear ct0 ct1
 generalize w4.alloc (.cells #[.string ⟨#[]⟩,.string ⟨#[]⟩] 23)=v4 at *
 generalize w4.heap.size=Pt at *
 refine (HG.out _).mono ?_
 rintro r w5 ⟨rfl,hb⟩
 replace HFa:=Lib.hid ((HFa.out.below hb).alloc (.cells #[.bool y0,.string y1,.string y2] 28))
 replace HFx:=Lib.hid ((HFx.out.below hb).alloc (.cells #[.bool y0,.string y1,.string y2] 28))
 replace HFt:=Lib.hid ((HFt.out.below hb).alloc (.cells #[.bool y0,.string y1,.string y2] 28))
 have HFy:=Lib.hid (FcAt.new w5 y0 y1 y2)
 replace HBA:=Lib.hid (bthen (bthen HBA.out hb) (zaa (Below.refl _ _) (.cells #[.bool y0,.string y1,.string y2] 28)))
 clear hb
 have ca0:=HFa.out.c0
 have ca1:=HFa.out.c1
 have hw1:wrap64 ((a.size:Int)+(b.size:Int))>500:=by have h1:=HL.out; have h2:=HL2.out; unfold wrap64; omega
 go_wp2_with fail
 clear ca0 ca1 hw1
 generalize w5.alloc (.cells #[.bool y0,.string y1,.string y2] 28)=v5 at *
 generalize w5.heap.size=Py at *
 refine (HK.out _ HBA.out).mono ?_
 rintro r w6 ⟨rfl,hb⟩
 replace HFa:=Lib.hid (HFa.out.below hb)
 replace HFx:=Lib.hid (HFx.out.below hb)
 replace HFt:=Lib.hid (HFt.out.below hb)
 replace HFy:=Lib.hid (HFy.out.below hb)
 replace HBA:=Lib.hid (bthen HBA.out hb)
 clear hb
 skip
 go_wp2
 go_ret
 exact ⟨rfl,HBA.out⟩
theorem reads_ok (a b s t0 t1 pw x1 x2 y1 y2 u1 u2 z1 z2 d1 d2 q1 q2 v1 v2 e1 e2:ByteArray) (x0 u0 z0 d0 q0 v0 e0:Bool) (k:Int) (n c m:Int) (w:World) (hm:wrap64 (1+c)=m) (hk:k≤0)
  (HC:Ans 80 #[.int .i64 n,.int .i64 40] (.int .i64 c))
  (HN:∀ W,Below w.heap.size w W→Calls Tryz.prog 19 #[.agg #[.string a,.string b],.int .i64 m] W fun r w'=>r = .returned (.tuple #[.string s,.int .i64 0])∧Below W.heap.size W w')
  (HF:Ans 22 #[.agg #[.string a,.string b]] (.tuple #[.agg #[.bool x0,.string x1,.string x2],.bool true]))
  (HP:Ans 59 #[.string s] (.tuple #[.agg #[.string t0,.string t1],.int .i64 0,.int .i64 0]))
  (HG:Ans 22 #[.agg #[.string t0,.string t1]] (.tuple #[.agg #[.bool x0,.string y1,.string y2],.bool true]))
  (HN2:∀ W,Below w.heap.size w W→Calls Tryz.prog 19 #[.agg #[.string t0,.string t1],.int .i64 m] W fun r w'=>r = .returned (.tuple #[.string s,.int .i64 0])∧Below W.heap.size W w')
  (HS:Ans 83 #[.agg #[.bool x0,.string x1,.string x2],.agg #[.bool x0,.string y1,.string y2]] (.agg #[.bool u0,.string u1,.string u2]))
  (HZ:Ans 82 #[.agg #[.bool u0,.string u1,.string u2]] (.agg #[.bool z0,.string z1,.string z2]))
  (HW:Ans 84 #[.string ⟨#[49,48]⟩,.int .i64 m] (.string pw))
  (HD:Ans 81 #[.agg #[.bool z0,.string z1,.string z2],.agg #[.bool false,.string pw,.string ⟨#[49]⟩]] (.agg #[.bool d0,.string d1,.string d2]))
  (HQ:Ans 82 #[.agg #[.bool x0,.string y1,.string y2]] (.agg #[.bool q0,.string q1,.string q2]))
  (HV:Ans 86 #[.int .i64 5] (.agg #[.bool v0,.string v1,.string v2]))
  (HE:Ans 81 #[.agg #[.bool q0,.string q1,.string q2],.agg #[.bool v0,.string v1,.string v2]] (.agg #[.bool e0,.string e1,.string e2]))
  (HX:Ans 85 #[.agg #[.bool d0,.string d1,.string d2],.agg #[.bool e0,.string e1,.string e2]] (.int .i64 k))
  (HK:∀ W,Below w.heap.size w W→Calls Tryz.prog 23 #[] W fun r w'=>r = .returned (.bool true)∧Below W.heap.size W w')
  : Calls Tryz.prog 18 #[.agg #[.string a,.string b],.int .i64 n] w fun r w'=>r = .returned (.bool true)∧Below w.heap.size w w':=by
 have HC:=Lib.hid HC
 have HN:=Lib.hid HN
 have HF:=Lib.hid HF
 have HP:=Lib.hid HP
 have HG:=Lib.hid HG
 have HN2:=Lib.hid HN2
 have HS:=Lib.hid HS
 have HZ:=Lib.hid HZ
 have HW:=Lib.hid HW
 have HD:=Lib.hid HD
 have HQ:=Lib.hid HQ
 have HV:=Lib.hid HV
 have HE:=Lib.hid HE
 have HX:=Lib.hid HX
 have HK:=Lib.hid HK
 have HM:=Lib.hid hm
 clear hm
 have q1':(s.toList == s.toList)=true:=beq_self_eq_true _
 have q2':(x0 == x0)=true:=beq_self_eq_true _
 have HKK:=Lib.hid hk
 clear hk
 go_enter Tryz.func18,Tryz.ntmps18
 have fa:=RbAt.new w a b
 have hba:=zaa (Below.refl w.heap.size w) (.cells #[.string a,.string b] 23)
 go_wp2_with fail
 generalize w.alloc (.cells #[.string a,.string b] 23)=W0 at *
 have HFa:=Lib.hid fa
 have HBA:=Lib.hid hba
 clear fa hba
 refine (HC.out _).mono ?_
 rintro r w1 ⟨rfl,hb⟩
 replace HFa:=Lib.hid (HFa.out.below hb)
 replace HBA:=Lib.hid (bthen HBA.out hb)
 clear hb
 have ca0:=HFa.out.c0
 have ca1:=HFa.out.c1
 go_wp2_with fail
 clear ca0 ca1
 rw [HM.out]
 refine (HN.out _ HBA.out).mono ?_
 rintro r w2 ⟨rfl,hb⟩
 replace HFa:=Lib.hid (HFa.out.below hb)
 replace HBA:=Lib.hid (bthen HBA.out hb)
 clear hb
 have ca0:=HFa.out.c0
 have ca1:=HFa.out.c1
 go_wp2_with fail
 clear ca0 ca1
 refine (HF.out _).mono ?_
 rintro r w3 ⟨rfl,hb⟩
 replace HFa:=Lib.hid ((HFa.out.below hb).alloc (.cells #[.bool x0,.string x1,.string x2] 28))
 have HFx:=Lib.hid (FcAt.new w3 x0 x1 x2)
 replace HBA:=Lib.hid (bthen (bthen HBA.out hb) (zaa (Below.refl _ _) (.cells #[.bool x0,.string x1,.string x2] 28)))
 clear hb
 go_wp2_with fail
 generalize w3.alloc (.cells #[.bool x0,.string x1,.string x2] 28)=v3 at *
 generalize w3.heap.size=Px at *
 refine (HP.out _).mono ?_
 rintro r w4 ⟨rfl,hb⟩
 replace HFa:=Lib.hid ((HFa.out.below hb).alloc (.cells #[.string t0,.string t1] 23))
 replace HFx:=Lib.hid ((HFx.out.below hb).alloc (.cells #[.string t0,.string t1] 23))
 have HFt:=Lib.hid (RbAt.new w4 t0 t1)
 replace HBA:=Lib.hid (bthen (bthen HBA.out hb) (zaa (Below.refl _ _) (.cells #[.string t0,.string t1] 23)))
 clear hb
 have ct0:=HFt.out.c0
 have ct1:=HFt.out.c1
 go_wp2_with fail
 clear ct0 ct1
 generalize w4.alloc (.cells #[.string t0,.string t1] 23)=v4 at *
 generalize w4.heap.size=Pt at *
 refine (HG.out _).mono ?_
 rintro r w5 ⟨rfl,hb⟩
 replace HFa:=Lib.hid ((HFa.out.below hb).alloc (.cells #[.bool x0,.string y1,.string y2] 28))
 replace HFx:=Lib.hid ((HFx.out.below hb).alloc (.cells #[.bool x0,.string y1,.string y2] 28))
 replace HFt:=Lib.hid ((HFt.out.below hb).alloc (.cells #[.bool x0,.string y1,.string y2] 28))
 have HFy:=Lib.hid (FcAt.new w5 x0 y1 y2)
 replace HBA:=Lib.hid (bthen (bthen HBA.out hb) (zaa (Below.refl _ _) (.cells #[.bool x0,.string y1,.string y2] 28)))
 clear hb
 have ct0:=HFt.out.c0
 have ct1:=HFt.out.c1
 go_wp2_with fail
 clear ct0 ct1
 generalize w5.alloc (.cells #[.bool x0,.string y1,.string y2] 28)=v5 at *
 generalize w5.heap.size=Py at *
 refine (HN2.out _ HBA.out).mono ?_
 rintro r w6 ⟨rfl,hb⟩
 replace HFa:=Lib.hid (HFa.out.below hb)
 replace HFx:=Lib.hid (HFx.out.below hb)
 replace HFt:=Lib.hid (HFt.out.below hb)
 replace HFy:=Lib.hid (HFy.out.below hb)
 replace HBA:=Lib.hid (bthen HBA.out hb)
 clear hb
 have cx0:=HFx.out.c0
 have cx1:=HFx.out.c1
 have cx2:=HFx.out.c2
 have cy0:=HFy.out.c0
 have cy1:=HFy.out.c1
 have cy2:=HFy.out.c2
 go_wp2_with fail
 clear cx0 cx1 cx2 cy0 cy1 cy2
 refine (HS.out _).mono ?_
 rintro r w7 ⟨rfl,hb⟩
 replace HFa:=Lib.hid (HFa.out.below hb)
 replace HFx:=Lib.hid (HFx.out.below hb)
 replace HFt:=Lib.hid (HFt.out.below hb)
 replace HFy:=Lib.hid (HFy.out.below hb)
 replace HBA:=Lib.hid (bthen HBA.out hb)
 clear hb
 go_wp2_with fail
 refine (HZ.out _).mono ?_
 rintro r w8 ⟨rfl,hb⟩
 replace HFa:=Lib.hid (HFa.out.below hb)
 replace HFx:=Lib.hid (HFx.out.below hb)
 replace HFt:=Lib.hid (HFt.out.below hb)
 replace HFy:=Lib.hid (HFy.out.below hb)
 replace HBA:=Lib.hid (bthen HBA.out hb)
 clear hb
 go_wp2_with fail
 refine (HW.out _).mono ?_
 rintro r w9 ⟨rfl,hb⟩
 replace HFa:=Lib.hid (HFa.out.below hb)
 replace HFx:=Lib.hid (HFx.out.below hb)
 replace HFt:=Lib.hid (HFt.out.below hb)
 replace HFy:=Lib.hid (HFy.out.below hb)
 replace HBA:=Lib.hid (bthen HBA.out hb)
 clear hb
 go_wp2_with fail
 refine (HD.out _).mono ?_
 rintro r w10 ⟨rfl,hb⟩
 replace HFa:=Lib.hid ((HFa.out.below hb).alloc (.cells #[.bool d0,.string d1,.string d2] 28))
 replace HFx:=Lib.hid ((HFx.out.below hb).alloc (.cells #[.bool d0,.string d1,.string d2] 28))
 replace HFt:=Lib.hid ((HFt.out.below hb).alloc (.cells #[.bool d0,.string d1,.string d2] 28))
 replace HFy:=Lib.hid ((HFy.out.below hb).alloc (.cells #[.bool d0,.string d1,.string d2] 28))
 have HFd:=Lib.hid (FcAt.new w10 d0 d1 d2)
 replace HBA:=Lib.hid (bthen (bthen HBA.out hb) (zaa (Below.refl _ _) (.cells #[.bool d0,.string d1,.string d2] 28)))
 clear hb
 go_wp2_with fail
 generalize w10.alloc (.cells #[.bool d0,.string d1,.string d2] 28)=v10 at *
 generalize w10.heap.size=Pd at *
 have HKE:=Lib.hid (show ∀ W':World,Below v10.heap.size v10 W'→(fun w':World=>w'.cell? ⟨Pd,0,none⟩=some (.bool d0)∧w'.cell? ⟨Pd,1,none⟩=some (.string d1)∧w'.cell? ⟨Pd,2,none⟩=some (.string d2)∧w'.cell? ⟨Py,0,none⟩=some (.bool x0)∧w'.cell? ⟨Py,1,none⟩=some (.string y1)∧w'.cell? ⟨Py,2,none⟩=some (.string y2)) W' from fun W' h=>⟨(HFd.out.below h).c0,(HFd.out.below h).c1,(HFd.out.below h).c2,(HFy.out.below h).c0,(HFy.out.below h).c1,(HFy.out.below h).c2⟩)
 dsimp only at HKE
 go_region_held3 (fun w'=>w'.cell? ⟨Pd,0,none⟩=some (.bool d0)∧w'.cell? ⟨Pd,1,none⟩=some (.string d1)∧w'.cell? ⟨Pd,2,none⟩=some (.string d2)∧w'.cell? ⟨Py,0,none⟩=some (.bool x0)∧w'.cell? ⟨Py,1,none⟩=some (.string y1)∧w'.cell? ⟨Py,2,none⟩=some (.string y2))
  ((with_reducible refine HKE.out _ ?_; repeat (with_reducible first|exact Below.refl _ _|apply zar|apply zab|apply zaa|refine bthen ?_ hbr4|refine bthen ?_ hbr3|refine bthen ?_ hbr2|refine bthen ?_ hbr1)))
  ((first
   | (go_simp; go_at_call 82; refine (HQ.out _).mono ?_; rintro e wr1 ⟨rfl,hbr1⟩)
   | (go_simp; go_at_call 86; refine (HV.out _).mono ?_; rintro e wr2 ⟨rfl,hbr2⟩)
   | (go_simp; go_at_call 81; refine (HE.out _).mono ?_; rintro e wr3 ⟨rfl,hbr3⟩)
   | (go_simp; go_at_call 85; refine (HX.out _).mono ?_; rintro e wr4 ⟨rfl,hbr4⟩)))
 all_goals
  rename_i hHeld
  clear hHeld HKE
  have hb4:Below v10.heap.size v10 wr4:=by repeat (with_reducible first|exact Below.refl _ _|apply zar|apply zab|apply zaa|refine bthen ?_ hbr4|refine bthen ?_ hbr3|refine bthen ?_ hbr2|refine bthen ?_ hbr1)
  replace HFx:=Lib.hid (HFx.out.below hb4)
  replace HFy:=Lib.hid (HFy.out.below hb4)
  replace HBA:=Lib.hid (bthen HBA.out hb4)
  clear hb4 hbr1 hbr2 hbr3 hbr4
  have hk2:=HKK.out
  have cx0:=HFx.out.c0
  have cy0:=HFy.out.c0
  go_wp2_with fail
  clear cx0 cy0
  refine (HK.out _ HBA.out).mono ?_
  rintro r wz ⟨rfl,hb⟩
  replace HBA:=Lib.hid (bthen HBA.out hb)
  clear hb
  go_wp2
  go_ret
  exact ⟨rfl,HBA.out⟩
end Go.Proofs.ZQ
end
section
namespace Go.Proofs.ZP
open Go.RowKit Go.Proofs.ZW.Wa Go.Proofs.ZW.Wb Go.Proofs.ZW.Wc
attribute [local go_sem] zaC zaB zaM zaL zaz zay zaF zaE
def c1_Count.f (a0:Int) (a1:Int):Option (Int):=if a1=0 then (none) else (if (Int.tmod a0 a1)<0 then (some (wrap64 ((Int.tmod a0 a1)+a1))) else (some (Int.tmod a0 a1)))
theorem c1_Count.calls (a0:Int) (a1:Int) (r:Int) (w:World) (h:c1_Count.f a0 a1=some r) :
  Calls Tryz.prog 80 #[.int .i64 a0,.int .i64 a1] w fun e w'=>e = .returned (.int .i64 r)∧Drawn0 w w':=by
 have H:(if a1=0 then (none) else (if (Int.tmod a0 a1)<0 then (some (wrap64 ((Int.tmod a0 a1)+a1))) else (some (Int.tmod a0 a1))))=some r:=h
 clear h
 by_cases c3:a1=0
 ·rw [if_pos c3] at H
  exact absurd H (by simp)
 ·rw [if_neg c3] at H
  have c3b0:(a1 == 0)=false:=beq_eq_false_iff_ne.mpr c3
  have c3b1:(a1 != 0)=true:=bne_iff_ne.mpr c3
  by_cases c4:(Int.tmod a0 a1)<0
  ·rw [if_pos c4] at H
   have c4b0:decide ((Int.tmod a0 a1)<0)=true:=decide_eq_true c4
   clear c4
   obtain rfl:=Option.some.inj H
   go_enter Tryz.func80,Tryz.ntmps80
   go_wp2
   go_ret
   exact ⟨by first|rfl|(simp; done)|(simp [*]; done),by repeat (first|exact Drawn0.refl _|apply Drawn0.step)⟩
  ·rw [if_neg c4] at H
   have c4b0:decide ((Int.tmod a0 a1)<0)=false:=decide_eq_false c4
   clear c4
   obtain rfl:=Option.some.inj H
   go_enter Tryz.func80,Tryz.ntmps80
   go_wp2
   go_ret
   exact ⟨by first|rfl|(simp; done)|(simp [*]; done),by repeat (first|exact Drawn0.refl _|apply Drawn0.step)⟩
end Go.Proofs.ZP
end
section
namespace Go.Proofs.ZQ
open Go.RowKit Go.Proofs.ZW.Wa Go.Proofs.ZP
def Itoat (w:World):Prop:=∀ (e:Int),-100000≤e→e≤100000→∀ W,Below w.heap.size w W→Calls Tryz.prog 170 #[.int .i64 e] W fun r w'=>r = .returned (.string ⟨(Lib.itoa e).toArray⟩)∧Below W.heap.size W w'
theorem itoa_len {e:Int} (h0 : -100000≤e) (h1:e≤100000):(⟨(Lib.itoa e).toArray⟩:ByteArray).size≤1000:=by
 show (Lib.itoa e).toArray.size≤1000
 have h:=(zbf (k:=6) (n:=e.natAbs) (by decide)).2 (by omega)
 have h2:=sgL_le (decide (e<0))
 rw [itoa_eq,List.size_toArray,List.length_append]
 omega
theorem Itoat.plain {w:World} (h:Itoat w):Itoas w:=fun e h0 h1=>⟨_,itoa_len h0 h1,h e h0 h1⟩
theorem Itoat.below {w w':World} (h:Itoat w) (hb:Below w.heap.size w w'):Itoat w':=fun e h0 h1 W hW=>h e h0 h1 W (bthen hb hW)
theorem sz_mono {x:Rat} {k l:Nat} (h:Sz k x) (hl:k≤l):Sz l x:=⟨Nat.le_trans h.1 hl,Nat.le_trans h.2 hl⟩
theorem abs_sz {x:Rat} {k:Nat} (h:Sz k x):Sz k x.abs:=by
 obtain ⟨e1,e2⟩:=zdH x
 unfold Sz; rw [e1,e2,Int.natAbs_natCast]; exact h
theorem sub_sz {x y:Rat} {k:Nat} (hx:Sz k x) (hy:Sz k y) (hk:k≤1000000):Sz (2*k+1) (x-y):=by
 rw [Rat.sub_eq_add_neg]; exact (FAdd_Fr hx (neg_sz hy) hk).2
theorem fsub_ans {x y:Rat} {k:Nat} (hx:Sz k x) (hy:Sz k y) (hk:k≤1000000):Ans 83 #[FrV x,FrV y] (FrV (x-y)):=fun W=>c1_FSub.calls _ _ _ _ _ _ _ _ _ W (FSub_Fr hx hy hk)
theorem fmul_ans {x y:Rat} {k:Nat} (hx:Sz k x) (hy:Sz k y) (hk:k≤1000000):Ans 81 #[FrV x,FrV y] (FrV (x*y)):=fun W=>c1_FMul.calls _ _ _ _ _ _ _ _ _ W (FMul_Fr hx hy hk).1
theorem fcmp_ans {x y:Rat} {k:Nat} (hx:Sz k x) (hy:Sz k y) (hk:k≤1000000):Ans 85 #[FrV x,FrV y] (.int .i64 (cmpR x y)):=fun W=>c1_FCmp.calls _ _ _ _ _ _ _ W (FCmp_Fr hx hy hk)
theorem whole5_ans:Ans 86 #[.int .i64 5] (FrV 5):=fun W=>by
 refine c1_Whole.calls 5 _ _ _ W ?_
 unfold c1_Whole.f c1_Of.f
 rw [if_neg (by decide)]
 have e:IntKind.u64.wrap 5=5:=rfl
 rw [e,if_pos (by decide),Option.bind_some,T_1]; rfl
theorem power10_ans {n:Nat} (hn:n≤40):Ans 84 #[.string ⟨#[49,48]⟩,.int .i64 (n:Int)] (.string (T (10^n))):=fun W=>by
 refine c1_Power.calls _ _ _ W ?_
 have e10:(⟨#[49,48]⟩:ByteArray)=T 10:=by
  have:=T_ten 1
  rw [Nat.pow_one] at this
  rw [←this]; rfl
 have hs10:(T 10).size=2:=by rw [←e10]; rfl
 unfold c1_Power.f
 rw [e10,zdu (by rw [hs10]; decide),Option.bind_some]
 rw [if_pos ⟨by omega,by omega,by rw [hs10]; omega⟩,Int.toNat_natCast]
theorem tenV (n:Nat):FrV (tenR (n:Int)) = .agg #[.bool false,.string (T (10^n)),.string ⟨#[49]⟩]:=by
 rw [zbm]
 unfold FrV
 rw [fr_nat,←T_1]
theorem five_sz:Sz 600 (5:Rat):=by
 refine ⟨(zas (k:=600) (by decide)).2 ?_,(zas (k:=600) (by decide)).2 ?_⟩
 ·exact Nat.lt_of_lt_of_le (show 5<10^1 by decide) (Nat.pow_le_pow_right (by decide) (by decide))
 ·exact Nat.lt_of_lt_of_le (show 1<10^1 by decide) (Nat.pow_le_pow_right (by decide) (by decide))
theorem near_le {x y:Rat} {t:Rat} (h1:(x.abs-y.abs)*t≤5*y.abs) (h2:(y.abs-x.abs)*t≤5*y.abs) (hs:decide (x.num<0)=decide (y.num<0)):(x-y).abs*t≤y.abs*5:=by
 have ab:∀ z:Rat,z.abs=if z.num<0 then -z else z:=fun z=>by
  unfold Rat.abs
  by_cases hz:z.num<0
  ·rw [if_pos hz,if_neg (fun h=>by have:=Rat.num_nonneg.2 h; omega)]
  ·rw [if_neg hz,if_pos (Rat.num_nonneg.1 (by omega))]
 rw [ab (x-y)]
 rw [ab x,ab y] at h1 h2
 rw [ab y]
 by_cases hx:x.num<0
 ·rw [decide_eq_true hx] at hs
  have hy:=of_decide_eq_true hs.symm
  rw [if_pos hx,if_pos hy] at h1 h2
  rw [if_pos hy]
  split<;>grind
 ·rw [decide_eq_false hx] at hs
  have hy:=of_decide_eq_false hs.symm
  rw [if_neg hx,if_neg hy] at h1 h2
  rw [if_neg hy]
  split<;>grind
theorem count_ans (n:Int):∃ c:Int,0≤c∧c<40∧Ans 80 #[.int .i64 n,.int .i64 40] (.int .i64 c):=by
 have h1:=Int.tmod_lt_of_pos n (show (0:Int)<40 by decide)
 have h2:=Int.lt_tmod_of_pos n (show (0:Int)<40 by decide)
 by_cases h:Int.tmod n 40<0
 ·refine ⟨Int.tmod n 40+40,by omega,by omega,fun W=>(c1_Count.calls n 40 _ W ?_).mono fun e w' ⟨h,hd⟩=>⟨h,by obtain ⟨nd,rfl⟩:=hd; exact zab (Below.refl _ _) nd⟩⟩
  unfold c1_Count.f
  rw [if_neg (by decide),if_pos h]
  congr 1; unfold wrap64; omega
 ·refine ⟨Int.tmod n 40,by omega,by omega,fun W=>(c1_Count.calls n 40 _ W ?_).mono fun e w' ⟨h,hd⟩=>⟨h,by obtain ⟨nd,rfl⟩:=hd; exact zab (Below.refl _ _) nd⟩⟩
  unfold c1_Count.f
  rw [if_neg (by decide),if_neg h]
theorem reads_close {a b s t0 t1:ByteArray} {x y:Rat} {n c:Int} {N:Nat} (W:World) (hN:wrap64 (1+c)=(N:Int)) (hN2:N≤40) (hx:RR a b x) (hy:RR t0 t1 y) (hs:decide (x.num<0)=decide (y.num<0)) (hle:(x-y).abs*tenR (N:Int)≤y.abs*5)
  (HC:Ans 80 #[.int .i64 n,.int .i64 40] (.int .i64 c))
  (HN:∀ W',Below W.heap.size W W'→Calls Tryz.prog 19 #[.agg #[.string a,.string b],.int .i64 (N:Int)] W' fun r w'=>r = .returned (.tuple #[.string s,.int .i64 0])∧Below W'.heap.size W' w')
  (HP:Ans 59 #[.string s] (.tuple #[.agg #[.string t0,.string t1],.int .i64 0,.int .i64 0]))
  (HN2:∀ W',Below W.heap.size W W'→Calls Tryz.prog 19 #[.agg #[.string t0,.string t1],.int .i64 (N:Int)] W' fun r w'=>r = .returned (.tuple #[.string s,.int .i64 0])∧Below W'.heap.size W' w')
  (HK:∀ W',Below W.heap.size W W'→Calls Tryz.prog 23 #[] W' fun r w'=>r = .returned (.bool true)∧Below W'.heap.size W' w') :
  Calls Tryz.prog 18 #[.agg #[.string a,.string b],.int .i64 n] W fun e W'=>e = .returned (.bool true)∧Below W.heap.size W W':=by
 have sx:=rr_sz hx
 have sy:=rr_sz hy
 have sd:=sub_sz sx sy (by decide)
 have st:Sz 1201 (tenR (N:Int)):=tenR_sz _ _ (by omega)
 have sm:=(FMul_Fr (abs_sz sd) st (by decide)).2
 have sq:=(FMul_Fr (abs_sz sy) five_sz (by decide)).2
 have hy0:FrV y = .agg #[.bool (Fr x).1,.string (Fr y).2.1,.string (Fr y).2.2]:=by
  unfold FrV
  rw [show (Fr y).1=(Fr x).1 from hs.symm]
 have HG:=zci hy
 have HS:=fsub_ans sx sy (by decide)
 have HQ:=fsize_ans y
 rw [hy0] at HG HS HQ
 have HD:=fmul_ans (abs_sz sd) st (by decide)
 rw [tenV] at HD
 refine reads_ok a b s t0 t1 (T (10^N)) _ _ _ _ _ _ _ _ _ _ _ _ _ _ _ _ _ _ _ _ _ _ _ _ n c (N:Int) W hN ?_ HC HN (zci hx) HP HG HN2 HS (fsize_ans _) (power10_ans hN2) HD HQ whole5_ans (fmul_ans (abs_sz sy) five_sz (by decide)) (fcmp_ans (k:=2402) sm (sz_mono sq (by decide)) (by decide)) HK
 exact cmpR_nonpos hle
theorem num_list (neg:Bool) (p:ByteArray) (x:Int) (h:decide (x<0)=neg):((if x<0 then (⟨#[45]⟩:ByteArray) else ⟨#[]⟩)++p).data.toList=sgL neg++p.data.toList:=by
 subst h
 by_cases hx:x<0
 ·rw [if_pos hx,decide_eq_true hx,zbJ]; rfl
 ·rw [if_neg hx,decide_eq_false hx,zbJ]; rfl
theorem ShowReads_any (a b:ByteArray) (n:Int) (W:World) (h0 : -9223372036854775808≤n) (h1:n≤9223372036854775807) (H:Itoat W) :
  Calls Tryz.prog 18 #[.agg #[.string a,.string b],.int .i64 n] W fun e W'=>e = .returned (.bool true)∧Below W.heap.size W W':=by
 obtain ⟨c,hc0,hc1,HC⟩:=count_ans n
 obtain ⟨N,hN⟩:∃ N:Nat,1+c=(N:Int):=⟨(1+c).toNat,by omega⟩
 have hw:wrap64 (1+c)=(N:Int):=by unfold wrap64; omega
 have hN1:1≤N:=by omega
 have hN2:N≤40:=by omega
 have HK:∀ W',Below W.heap.size W W'→Calls Tryz.prog 23 #[] W' fun r w'=>r = .returned (.bool true)∧Below W'.heap.size W' w':=fun W' h=>known25 W' (H.plain.below h)
 by_cases hr:∃ x,RR a b x
 ·obtain ⟨x,hx⟩:=hr
  by_cases hz:x=0
  ·subst hz
   have hb:b.toList=([49]:List UInt8):=by
    rw [hx.den]
    exact (T_is1 _).2 rfl
   have hP:=parse_print hx
   rw [if_pos hb] at hP
   have ha:a=⟨#[48]⟩:=by
    rw [hx.num]; rfl
   have HN:∀ W',Below W.heap.size W W'→Calls Tryz.prog 19 #[.agg #[.string a,.string b],.int .i64 (N:Int)] W' fun r w'=>r = .returned (.tuple #[.string a,.int .i64 0])∧Below W'.heap.size W' w':=fun W' h=>by
    have h1:=number_zero a b (N:Int) (by omega) (by omega) ((rr_zero hx).2 rfl) (zcu hx) W'
    rw [←ha] at h1
    exact h1
   refine reads_close W hw hN2 hx hx rfl ?_ HC HN (fun W'=>rat_Parse.calls a _ _ _ _ W' (congrArg some hP)) HN HK
   rw [Rat.sub_eq_add_neg,Rat.add_neg_cancel]
   show (0:Rat).abs*_≤(0:Rat).abs*5
   rw [show (0:Rat).abs=0 from rfl,Rat.zero_mul,Rat.zero_mul]
   exact Rat.le_refl
  ·obtain ⟨e1,e2⟩:=zdH x
   have hn0:=num_ne hz
   have hp:0<x.abs.num:=by rw [e1]; omega
   obtain ⟨m,e,hR,m1,m2,l1,l2,n1,n2⟩:=rnd_spec (n:=N) hp hN1
   have hsx:Sz 600 x:=rr_sz hx
   have hel:=expR_le (abs_sz hsx)
   have hi:=itoa_len (e:=e) (by omega) (by omega)
   have hN3:∀ W',Below W.heap.size W W'→Calls Tryz.prog 19 #[.agg #[.string a,.string b],.int .i64 (N:Int)] W' fun r w'=>r = .returned (.tuple #[.string ((if x.num<0 then (⟨#[45]⟩:ByteArray) else ⟨#[]⟩)++plcR (T m) e ⟨(Lib.itoa e).toArray⟩),.int .i64 0])∧Below W'.heap.size W' w':=fun W' h=>by
    have h1:=number_ok a b ⟨(Lib.itoa e).toArray⟩ x (N:Int) W' (by omega) (by omega) hx hz hi (by rw [hR]; exact fun W2 h2=>H e (by omega) (by omega) W2 (bthen h h2))
    rw [hR] at h1
    exact h1
   have hls:=num_list (decide (x.num<0)) (plcR (T m) e ⟨(Lib.itoa e).toArray⟩) x.num rfl
   have hit:(⟨(Lib.itoa e).toArray⟩:ByteArray).data.toList=Lib.itoa e:=by simp
   have hpp:0<10^(N-1):=Nat.pow_pos (by decide)
   have hm0:0<m:=by omega
   rcases parse_show hN1 hN2 m1 m2 (by omega) (by omega) hit hls with ⟨hl,hP⟩|⟨hsm,hP⟩
   ·have hno:¬ ∃ y,RR (⟨#[]⟩:ByteArray) ⟨#[]⟩ y:=fun ⟨y,hy⟩=>by
     have h1:=zaN y.den
     rw [←hy.den] at h1
     exact absurd h1 (by decide)
    have hab:500<a.size+b.size∧a.size≤1000∧b.size≤1000:=by
     have h1:=rr_bytes hx
     have h2:(T x.num.natAbs).size≤a.size:=by
      rw [hx.num,←zak (wtext x.num),wt_list,List.length_append,zak]; omega
     have h3:b.size=(T x.den).size:=by rw [hx.den]
     have h4:(T x.num.natAbs).size≤600∧(T x.den).size≤600:=hsx
     have hp1:=zaN x.num.natAbs
     have hp2:=zaN x.den
     have hE:((T x.num.natAbs).size:Int)-(T x.den).size-1≤expR x.abs∧expR x.abs≤((T x.num.natAbs).size:Int)-(T x.den).size:=by
      unfold expR
      rw [e1,e2,Int.natAbs_natCast]
      dsimp only
      split<;>omega
     omega
    exact reads_large a b _ _ _ _ _ _ _ n c (N:Int) W hw hab.1 hab.2 HC hN3 (zci hx) (fun W'=>rat_Parse.calls _ _ _ _ _ W' (congrArg some hP)) (zdx hno) HK
   ·generalize hy:yR (decide (x.num<0)) m (e-N+1)=y at *
    have hya:y.abs=((m:Int):Rat)*tenR (e-N+1):=by rw [←hy]; exact yR_abs hm0 _ _
    have hyn:decide (y.num<0)=decide (x.num<0):=by rw [←hy]; exact yR_neg hm0 _ _
    have hyr:RR (wtext y.num) (T y.den) y:=⟨rfl,rfl,hsm.1,hsm.2⟩
    have hyp:0<y.abs.num:=by rw [hya]; exact y_pos hm0 _
    have hyz:y≠0:=fun h=>by rw [h] at hyp; exact absurd hyp (by decide)
    have hR2:rndR y.abs (N:Int)=(T m,e):=by rw [hya]; exact rnd_again hN1 m1 m2
    have hsg:(if x.num<0 then (⟨#[45]⟩:ByteArray) else ⟨#[]⟩)=(if y.num<0 then (⟨#[45]⟩:ByteArray) else ⟨#[]⟩):=by
     by_cases hx0:x.num<0
     ·rw [decide_eq_true hx0] at hyn
      rw [if_pos hx0,if_pos (of_decide_eq_true hyn)]
     ·rw [decide_eq_false hx0] at hyn
      rw [if_neg hx0,if_neg (of_decide_eq_false hyn)]
    have hN4:∀ W',Below W.heap.size W W'→Calls Tryz.prog 19 #[.agg #[.string (wtext y.num),.string (T y.den)],.int .i64 (N:Int)] W' fun r w'=>r = .returned (.tuple #[.string ((if x.num<0 then (⟨#[45]⟩:ByteArray) else ⟨#[]⟩)++plcR (T m) e ⟨(Lib.itoa e).toArray⟩),.int .i64 0])∧Below W'.heap.size W' w':=fun W' h=>by
     have h1:=number_ok (wtext y.num) (T y.den) ⟨(Lib.itoa e).toArray⟩ y (N:Int) W' (by omega) (by omega) hyr hyz hi (by rw [hR2]; exact fun W2 h2=>H e (by omega) (by omega) W2 (bthen h h2))
     rw [hR2,←hsg] at h1
     exact h1
    refine reads_close W hw hN2 hx hyr hyn.symm ?_ HC hN3 (fun W'=>rat_Parse.calls _ _ _ _ _ W' (congrArg some hP)) hN4 HK
    refine near_le ?_ ?_ hyn.symm
    ·rw [hya]; exact n1
    ·rw [hya]; exact n2
 ·obtain ⟨h1,h2⟩:True∧True:=⟨trivial,trivial⟩
  exact reads_no a b _ _ _ _ n c (N:Int) W hw HC (fun W' h=>number_no a b (N:Int) (rat_right_no hr) W') (zdx hr) HK
end Go.Proofs.ZQ
end
