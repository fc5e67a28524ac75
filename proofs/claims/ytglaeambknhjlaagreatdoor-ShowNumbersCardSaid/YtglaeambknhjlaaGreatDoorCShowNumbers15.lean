/- Texts under the proof, joined by a program (prune.py): QPure1, QPure2, Q139, Q140. -/
import Derived.Test.YtglaeambknhjlaaGreatDoorCShowNumbers13
import Derived.Test.YtglaeambknhjlaaGreatDoorCShowNumbers09
import Derived.Test.YtglaeambknhjlaaGreatDoorCShowNumbers14
import Derived.Test.YtglaeambknhjlaaGreatDoorCShowNumbers11
set_option linter.unusedVariables false
set_option linter.unusedSimpArgs false
set_option exponentiation.threshold 20001
set_option maxHeartbeats 8000000
set_option maxRecDepth 100000
section
namespace Go.Proofs.ZQ
open Go.RowKit Go.Proofs.ZW.Wa Go.Proofs.ZP
def Fr (x:Rat):Bool×ByteArray×ByteArray:=(decide (x.num<0),T x.num.natAbs,T x.den)
theorem zbW {x:Int} (h:x<0):wtext x=(⟨#[45]⟩:ByteArray)++T x.natAbs:=by
 refine (zaI (zaX h)).trans (zaI ?_).symm
 simp
theorem told_ev (x:Rat):Ev (fun k=>c2_Told.f k (Fr x).1 (Fr x).2.1 (Fr x).2.2) (toldR x):=by
 have s1:=zaM (n:=x.num.natAbs) (k:=600) (by decide)
 have s2:=zaM (n:=x.den) (k:=600) (by decide)
 unfold c2_Told.f
 show Ev (fun k=>if ((T x.num.natAbs).size:Int)>600 then _ else _) _
 by_cases h1:((T x.num.natAbs).size:Int)>600
 ·refine Ev.congr (fun k=>if_pos h1) (Ev.step (f:=fun _=>some (⟨#[]⟩,⟨#[]⟩,7)) (fun k => ?_) ?_)
  ·simp only [c2_Told.j0]
   rw [if_pos trivial]
  ·have:toldR x=(⟨#[]⟩,⟨#[]⟩,7):=if_neg (fun h=>by have:=s1.2 h.1; omega)
   rw [this]; exact Ev.now _
 ·refine Ev.congr (fun k=>if_neg h1) ?_
  by_cases h2:((T x.den).size:Int)>600
  ·refine Ev.step (f:=fun _=>some (⟨#[]⟩,⟨#[]⟩,7)) (fun k => ?_) ?_
   ·show c2_Told.j0 (k+1) (decide (((T x.den).size:Int)>600)) _ _ _=_
    rw [decide_eq_true h2]
    simp only [c2_Told.j0]
    rw [if_pos trivial]
   ·have:toldR x=(⟨#[]⟩,⟨#[]⟩,7):=if_neg (fun h=>by have:=s2.2 h.2; omega)
    rw [this]; exact Ev.now _
  ·have ht:toldR x=(wtext x.num,T x.den,0):=if_pos ⟨s1.1 (by omega),s2.1 (by omega)⟩
   rw [ht]
   refine Ev.step (f:=fun _=>some (wtext x.num,T x.den,0)) (fun k => ?_) (Ev.now _)
   show c2_Told.j0 (k+1) (decide (((T x.den).size:Int)>600)) (decide (x.num<0)) (T x.num.natAbs) (T x.den)=_
   rw [decide_eq_false h2]
   simp only [c2_Told.j0]
   rw [if_neg (by decide)]
   by_cases hn:x.num<0
   ·rw [if_pos (decide_eq_true hn),if_pos (by omega),zbW hn]
   ·rw [if_neg (by simpa using hn),zaN (by omega)]
theorem T_1:(⟨#[49]⟩:ByteArray)=T 1:=T_one.symm
theorem T_0:(⟨#[48]⟩:ByteArray)=T 0:=T_zero.symm
theorem fr_of (s:Bool) (a b:Nat) (hb:0<b):Fr (Rat.divInt (sgn s a) b)=(s && decide (a≠0),T (a/Nat.gcd a b),T (b/Nat.gcd a b)):=by
 obtain ⟨h1,h2,h3⟩:=zbO s a b hb
 unfold Fr
 rw [h1,h2,h3]
theorem lowest_T (s:Bool) (a b:Nat) (hb:0<b) (ha:(T a).size≤137438953472) (hbs:(T b).size≤137438953472):c2_Lowest.f s (T a) (T b)=some (Fr (Rat.divInt (sgn s a) b)):=by
 unfold c2_Lowest.f
 rw [fr_of s a b hb]
 by_cases h0:a=0
 ·subst h0
  rw [if_pos (T_is0.2 rfl),T_0,T_1]
  have:b/Nat.gcd 0 b=1:=by rw [Nat.gcd_zero_left]; exact Nat.div_self hb
  rw [this,Nat.zero_div]
  simp
 ·have hg:0<Nat.gcd a b:=Nat.gcd_pos_of_pos_right _ hb
  have hgs:(T (Nat.gcd a b)).size≤137438953472:=Nat.le_trans (za0 (Nat.le_of_dvd hb (Nat.gcd_dvd_right a b))) hbs
  rw [if_neg (fun e=>h0 (T_is0.1 e)),Common_T ha hbs,Option.bind_some,zce ha hgs hg,Option.bind_some,zce hbs hgs hg,Option.bind_some]
  rw [decide_eq_true h0,Bool.and_true]
def spl (a:ByteArray):Bool×ByteArray:=if a.data.toList.head? = some 45 then (true,a.extract 1 a.size) else (false,a)
theorem spl_wtext (s:Bool) (m:Nat) (h:s=true→m≠0):spl (wtext (sgn s m))=(s,T m):=by
 have hz:sgn s m=0→s=false:=fun e=>by
  cases s
  ·rfl
  ·have:=h rfl
   simp [sgn] at e
   omega
 unfold spl
 cases s
 ·have:wtext (sgn false m)=T m:=by rw [zaN (by simp [sgn]),zcB]
  rw [this,if_neg ?_]
  intro e
  rcases hd:(T m).data.toList with _|⟨c,t⟩
  ·rw [hd] at e; simp at e
  ·rw [hd] at e
   injection e with e
   subst e
   exact zc6 m t hd
 ·have hneg:sgn true m<0:=by have:=h rfl; simp [sgn]; omega
  have hw:=zaX hneg
  rw [zcB] at hw
  have e:(wtext (sgn true m)).extract 1 (wtext (sgn true m)).size=T m:=by
   refine (zaI ?_).trans (zaI rfl).symm
   rw [ByteArray.data_extract,Array.toList_extract,List.extract_eq_take_drop,←zav,hw,List.length_cons,List.drop_succ_cons,List.drop_zero,Nat.add_sub_cancel,List.take_length]
  rw [hw,List.head?_cons,if_pos rfl,e]
theorem spl_neg {a:ByteArray} (h:(spl a).1=true):a=(⟨#[45]⟩:ByteArray)++(spl a).2∧(spl a).2=a.extract 1 a.size:=by
 unfold spl at h ⊢
 split at h
 ·rename_i hh
  rw [if_pos hh]
  refine ⟨?_,rfl⟩
  rcases hd:a.data.toList with _|⟨c,t⟩
  ·rw [hd] at hh; simp at hh
  ·rw [hd] at hh
   injection hh with hh
   subst hh
   refine (zaI hd).trans (zaI ?_).symm
   rw [ByteArray.data_append,Array.toList_append,ByteArray.data_extract,Array.toList_extract,List.extract_eq_take_drop,hd,←zav,hd]
   simp
 ·cases h
theorem spl_pos {a:ByteArray} (h:(spl a).1=false):(spl a).2=a:=by
 unfold spl at h ⊢
 split at h
 ·cases h
 ·rename_i hh; rw [if_neg hh]
theorem rr_iff (a b:ByteArray) (x:Rat):RR a b x↔∃ m n:Nat,(spl a).2=T m∧b=T n∧m<10^600∧n<10^600∧0<n∧Nat.gcd m n=1∧((spl a).1=true→m≠0)∧x=Rat.divInt (sgn (spl a).1 m) n:=by
 constructor
 ·intro h
  have hs:spl a=(decide (x.num<0),T x.num.natAbs):=by
   rw [h.num]
   conv=>lhs; rw [←zbZ x.num]
   exact spl_wtext _ _ (fun e=>by have:=of_decide_eq_true e; omega)
  rw [hs]
  refine ⟨x.num.natAbs,x.den,rfl,h.den,h.ln,h.ld,x.den_pos,x.reduced,fun e=>by have:=of_decide_eq_true e; omega,?_⟩
  show x=Rat.divInt (sgn (decide (x.num<0)) x.num.natAbs) x.den
  rw [zbZ,zbJ]
 ·rintro ⟨m,n,h1,h2,h3,h4,h5,h6,h7,h8⟩
  obtain ⟨f1,f2,f3⟩:=zbO (spl a).1 m n h5
  rw [h6,Nat.div_one] at f1 f2
  rw [←h8] at f1 f2 f3
  have hnum:x.num=sgn (spl a).1 m:=by
   rw [←zbZ x.num,f1,f3]
   cases hs:(spl a).1
   ·rfl
   ·rw [decide_eq_true (h7 hs)]; rfl
  refine ⟨?_,by rw [f2]; exact h2,by rw [f1]; exact h3,by rw [f2]; exact h4⟩
  rw [hnum]
  cases hs:(spl a).1
  ·rw [zaN (by simp [sgn]),zcB,←h1]; exact (spl_pos hs).symm
  ·rw [zbW (by have:=h7 hs; simp [sgn]; omega),zcB,←h1]; exact (spl_neg hs).1
def coreB (neg:Bool) (t b:ByteArray):Bool:=rightB t && rightB b && decide (b≠T 0) && decide (neg=true→t≠T 0) && decide (Nat.gcd (dval t.data.toList) (dval b.data.toList)=1)
theorem core_iff (a b:ByteArray):coreB (spl a).1 (spl a).2 b=true↔∃ x,RR a b x:=by
 unfold coreB
 simp only [Bool.and_eq_true,decide_eq_true_eq]
 constructor
 ·rintro ⟨⟨⟨⟨h1,h2⟩,h3⟩,h4⟩,h5⟩
  obtain ⟨m,hm,hm2⟩:=right_iff.1 h1
  obtain ⟨n,hn,hn2⟩:=right_iff.1 h2
  rw [hm,hn,zbi,zbi] at h5
  refine ⟨_,(rr_iff a b _).2 ⟨m,n,hm,hn,hm2,hn2,?_,h5,fun e => ?_,rfl⟩⟩
  ·rcases Nat.eq_zero_or_pos n with h0|h0
   ·subst h0; exact absurd hn h3
   ·exact h0
  ·intro h0; subst h0; exact h4 e hm
 ·rintro ⟨x,hx⟩
  obtain ⟨m,n,h1,h2,h3,h4,h5,h6,h7,h8⟩:=(rr_iff a b x).1 hx
  rw [h1,h2,zbi,zbi]
  exact ⟨⟨⟨⟨right_iff.2 ⟨m,rfl,h3⟩,right_iff.2 ⟨n,rfl,h4⟩⟩,fun e=>by have:=T_inj e; omega⟩,fun e e2=>h7 e (T_inj e2)⟩,h6⟩
theorem b48 {s:ByteArray}:s.toList=([48]:List UInt8)↔s=T 0:=by
 rw [ba_toList]
 constructor
 ·intro h; rw [T_zero]; exact zaI h
 ·rintro rfl; rw [T_zero]
theorem b49 {s:ByteArray}:(s.toList == ([49]:List UInt8))=decide (s=T 1):=by
 rw [Bool.eq_iff_iff,beq_iff_eq,decide_eq_true_eq,ba_toList]
 constructor
 ·intro h; rw [T_one]; exact zaI h
 ·rintro rfl; rw [T_one]
theorem right_core (t b:ByteArray) (neg:Bool) (h:neg=true→t≠T 0):((c1_Right.f t).bind fun t410=>(if t410=true then ((c1_Right.f b).bind fun t411=>(if t411=true then (if b.toList=([48]:List UInt8) then (some false) else ((c1_Common.f t b).bind fun t412=>(some (t412.toList == ([49]:List UInt8))))) else (some false))) else (some false)))=some (coreB neg t b):=by
 unfold c1_Right.f coreB
 rw [Option.bind_some,Option.bind_some]
 cases h1:rightB t
 ·rw [if_neg (by decide)]; simp
 ·rw [if_pos rfl]
  cases h2:rightB b
  ·rw [if_neg (by decide)]; simp
  ·obtain ⟨m,rfl,hm2⟩:=right_iff.1 h1
   obtain ⟨n,rfl,hn2⟩:=right_iff.1 h2
   have sm:=(zaM (k:=600) (by decide)).2 hm2
   have sn:=(zaM (k:=600) (by decide)).2 hn2
   rw [if_pos rfl]
   by_cases h3:T n=T 0
   ·rw [if_pos (b48.2 h3)]; simp [h3]
   ·rw [if_neg (fun e=>h3 (b48.1 e)),Common_T (by omega) (by omega),Option.bind_some,b49,zbi,zbi]
    have e1:(T (Nat.gcd m n)=T 1)↔Nat.gcd m n=1:=T_eq_iff
    by_cases hn:neg=true
    ·have h4:=h hn
     simp [h3,h4,e1]
    ·simp [h3,hn,e1]
theorem bt0 {s:ByteArray} (h:0<s.size):(bt s 0 == 45)=(spl s).1:=by
 have hl:0<s.data.toList.length:=by rw [zav]; exact h
 have hb:=bt_nth s hl
 have hb':bt s 0=(s.data.toList[0].toNat:Int):=hb
 have hh:s.data.toList.head? = some s.data.toList[0]:=by rw [List.head?_eq_getElem?,List.getElem?_eq_getElem hl]
 unfold spl
 rw [hh,hb']
 by_cases hc:s.data.toList[0]=45
 ·rw [hc,if_pos rfl]; rfl
 ·rw [if_neg (fun e=>hc (Option.some.inj e))]
  have:(s.data.toList[0].toNat:Int)≠45:=fun e=>hc (UInt8.toNat_inj.1 (by
   have h2:(45:UInt8).toNat=45:=rfl
   omega))
  exact beq_eq_false_iff_ne.2 this
theorem spl_empty {s:ByteArray} (h:s.toList=([]:List UInt8)):spl s=(false,s):=by
 unfold spl
 rw [ba_toList] at h
 rw [h,if_neg (by simp)]
theorem size_pos_of {s:ByteArray} (h:¬ s.toList=([]:List UInt8)):0<s.size:=by
 rw [ba_toList] at h
 rw [←zav]
 exact List.length_pos_iff.2 h
theorem right_j (a b:ByteArray):Ev (fun k=>c2_Right.j0 k a (spl a).1 a b) (coreB (spl a).1 (spl a).2 b):=by
 refine Ev.step (f:=fun _=>some (coreB (spl a).1 (spl a).2 b)) (fun k => ?_) (Ev.now _)
 simp only [c2_Right.j0]
 cases hs:(spl a).1
 ·rw [if_neg (by decide),spl_pos hs]
  exact right_core a b false (fun e=>by cases e)
 ·obtain ⟨e1,e2⟩:=spl_neg hs
  have hsz:1≤(a.size:Int):=by
   have:a.size=1+(spl a).2.size:=by
    have h:=congrArg ByteArray.size e1
    rw [ByteArray.size_append] at h
    exact h
   omega
  rw [if_pos rfl,if_pos hsz,←e2]
  by_cases h0:(spl a).2=T 0
  ·rw [if_pos (b48.2 h0)]
   unfold coreB
   rw [h0]; simp
  ·rw [if_neg (fun e=>h0 (b48.1 e))]
   exact right_core _ b true (fun _=>h0)
theorem right_ev (a b:ByteArray):Ev (fun k=>c2_Right.f k a b) (coreB (spl a).1 (spl a).2 b):=by
 unfold c2_Right.f
 by_cases h:a.toList=([]:List UInt8)
 ·refine Ev.congr (fun k=>if_pos h) ?_
  have:=right_j a b
  rw [spl_empty h] at this ⊢
  exact this
 ·have hp:=size_pos_of h
  refine Ev.congr (fun k=>(if_neg h).trans (if_pos (by omega))) ?_
  rw [bt0 hp]
  exact right_j a b
theorem fr_int (n:Int):Fr (Rat.divInt n 1)=(decide (n<0),T n.natAbs,T 1):=by
 have h:=fr_of (decide (n<0)) n.natAbs 1 (by decide)
 rw [zbZ,Nat.gcd_one_right,Nat.div_one,Nat.div_one] at h
 refine h.trans ?_
 by_cases hn:n<0
 ·rw [decide_eq_true hn,decide_eq_true (show n.natAbs≠0 by omega)]; rfl
 ·rw [decide_eq_false hn]; rfl
theorem whole_f (n:Int) (h0 : -9223372036854775808≤n) (h1:n<9223372036854775808):c2_Whole.f n=some (Fr (Rat.divInt n 1)):=by
 rw [fr_int]
 unfold c2_Whole.f c1_Of.f
 by_cases hn:n<0
 ·have e:IntKind.u64.wrap ((IntKind.u64.wrap (wrap64 (-(wrap64 (n+1)))))+1)=(n.natAbs:Int):=by
   have e1:wrap64 (n+1)=n+1:=by unfold wrap64; omega
   have e2:wrap64 (-(n+1)) = -(n+1):=by unfold wrap64; omega
   rw [e1,e2]
   have e3:IntKind.u64.wrap (-(n+1)) = -(n+1):=u64w (by omega) (by omega)
   rw [e3,u64w (by omega) (by omega)]; omega
  rw [if_pos hn,e,if_pos (by omega),Option.bind_some,Int.toNat_natCast,decide_eq_true hn,T_1]
 ·rw [if_neg hn,u64w (by omega) (by omega),if_pos (by omega),Option.bind_some,decide_eq_false hn,T_1]
  have:n.toNat=n.natAbs:=by omega
  rw [this]
theorem told_int (n:Int) (h0 : -9223372036854775808≤n) (h1:n<9223372036854775808):toldR (Rat.divInt n 1)=(wtext n,⟨#[49]⟩,0):=by
 have hf:=fr_int n
 unfold Fr at hf
 have e1:(Rat.divInt n 1).num=n:=by rw [Rat.num_divInt]; simp
 have e2:(Rat.divInt n 1).den=1:=by rw [Rat.den_divInt]; simp
 unfold toldR
 have hs:Sm (Rat.divInt n 1):=by
  unfold Sm
  rw [e1,e2]
  have h:(10:Nat)^20≤10^600:=Nat.pow_le_pow_right (by decide) (by decide)
  have h2:n.natAbs<10^20:=by
   have:(10:Nat)^20=100000000000000000000:=by decide
   omega
  have h3:1<(10:Nat)^20:=by decide
  exact ⟨Nat.lt_of_lt_of_le h2 h,Nat.lt_of_lt_of_le h3 h⟩
 rw [if_pos hs,e1,e2,T_one]
theorem of_ev (n:Int) (h0 : -9223372036854775808≤n) (h1:n<9223372036854775808):Ev (fun k=>c2_Of.f k n) (wtext n,⟨#[49]⟩):=by
 unfold c2_Of.f
 rw [whole_f n h0 h1]
 refine Ev.congr (f:=fun k=>(c2_Told.f k (Fr (Rat.divInt n 1)).1 (Fr (Rat.divInt n 1)).2.1 (Fr (Rat.divInt n 1)).2.2).bind fun bt578=>(some (bt578.1,bt578.2.1))) (fun k=>rfl) ?_
 have h:=told_ev (Rat.divInt n 1)
 rw [told_int n h0 h1] at h
 exact Ev.bind h (Ev.now _)
end Go.Proofs.ZQ
end
section
namespace Go.Proofs.ZQ
open Go.RowKit Go.Proofs.ZW.Wa Go.Proofs.ZW.Wb Go.Proofs.ZW.Wc
attribute [local go_sem] zaE zaD zaL zaK zaC zaB zaH zaG
noncomputable def c2_Near.f (a0:ByteArray) (a1:ByteArray):Option (ByteArray):=(c1_Divide.f a0 a1).bind fun bt421=>((c1_Times.f bt421.2 (⟨#[50]⟩:ByteArray)).bind fun t423=>((c1_Compare.f t423 a1).bind fun t424=>(if t424>0 then ((c1_Plus.f bt421.1 (⟨#[49]⟩:ByteArray)).bind fun t425=>(some t425)) else (if t424=0 then (if 0≤(wrap64 ((bt421.1.size:Int)-1)) then (if (wrap64 ((bt421.1.size:Int)-1))<(bt421.1.size:Int) then (if ((((bt bt421.1 (wrap64 ((bt421.1.size:Int)-1)))-48)%256)%2)=1 then ((c1_Plus.f bt421.1 (⟨#[49]⟩:ByteArray)).bind fun t426=>(some t426)) else (some bt421.1)) else (none)) else (none)) else (some bt421.1)))))
theorem c2_Near.calls (a0:ByteArray) (a1:ByteArray) (r:ByteArray) (w:World) (h:c2_Near.f a0 a1=some r) :
  Calls Tryz.prog 177 #[.string a0,.string a1] w fun e w'=>e = .returned (.string r)∧Below w.heap.size w w':=by
 have HB:=Aside0.mk (Below.refl w.heap.size w)
 have H:((c1_Divide.f a0 a1).bind fun bt421=>((c1_Times.f bt421.2 (⟨#[50]⟩:ByteArray)).bind fun t423=>((c1_Compare.f t423 a1).bind fun t424=>(if t424>0 then ((c1_Plus.f bt421.1 (⟨#[49]⟩:ByteArray)).bind fun t425=>(some t425)) else (if t424=0 then (if 0≤(wrap64 ((bt421.1.size:Int)-1)) then (if (wrap64 ((bt421.1.size:Int)-1))<(bt421.1.size:Int) then (if ((((bt bt421.1 (wrap64 ((bt421.1.size:Int)-1)))-48)%256)%2)=1 then ((c1_Plus.f bt421.1 (⟨#[49]⟩:ByteArray)).bind fun t426=>(some t426)) else (some bt421.1)) else (none)) else (none)) else (some bt421.1))))))=some r:=h
 clear h
 replace H:=Option.bind_eq_some_iff.mp H
 obtain ⟨⟨t421,t422⟩,A30,H⟩:=H
 replace H:((c1_Times.f t422 (⟨#[50]⟩:ByteArray)).bind fun t423=>((c1_Compare.f t423 a1).bind fun t424=>(if t424>0 then ((c1_Plus.f t421 (⟨#[49]⟩:ByteArray)).bind fun t425=>(some t425)) else (if t424=0 then (if 0≤(wrap64 ((t421.size:Int)-1)) then (if (wrap64 ((t421.size:Int)-1))<(t421.size:Int) then (if ((((bt t421 (wrap64 ((t421.size:Int)-1)))-48)%256)%2)=1 then ((c1_Plus.f t421 (⟨#[49]⟩:ByteArray)).bind fun t426=>(some t426)) else (some t421)) else (none)) else (none)) else (some t421)))))=some r:=H
 have A3:=Aside0.mk A30
 clear A30
 replace H:=Option.bind_eq_some_iff.mp H
 obtain ⟨t423,A40,H⟩:=H
 replace H:((c1_Compare.f t423 a1).bind fun t424=>(if t424>0 then ((c1_Plus.f t421 (⟨#[49]⟩:ByteArray)).bind fun t425=>(some t425)) else (if t424=0 then (if 0≤(wrap64 ((t421.size:Int)-1)) then (if (wrap64 ((t421.size:Int)-1))<(t421.size:Int) then (if ((((bt t421 (wrap64 ((t421.size:Int)-1)))-48)%256)%2)=1 then ((c1_Plus.f t421 (⟨#[49]⟩:ByteArray)).bind fun t426=>(some t426)) else (some t421)) else (none)) else (none)) else (some t421))))=some r:=H
 have A4:=Aside0.mk A40
 clear A40
 replace H:=Option.bind_eq_some_iff.mp H
 obtain ⟨t424,A50,H⟩:=H
 replace H:(if t424>0 then ((c1_Plus.f t421 (⟨#[49]⟩:ByteArray)).bind fun t425=>(some t425)) else (if t424=0 then (if 0≤(wrap64 ((t421.size:Int)-1)) then (if (wrap64 ((t421.size:Int)-1))<(t421.size:Int) then (if ((((bt t421 (wrap64 ((t421.size:Int)-1)))-48)%256)%2)=1 then ((c1_Plus.f t421 (⟨#[49]⟩:ByteArray)).bind fun t426=>(some t426)) else (some t421)) else (none)) else (none)) else (some t421)))=some r:=H
 have A5:=Aside0.mk A50
 clear A50
 by_cases c6:t424>0
 ·rw [if_pos c6] at H
  have c6b0:decide (0<t424)=true:=decide_eq_true c6
  clear c6
  replace H:=Option.bind_eq_some_iff.mp H
  obtain ⟨t425,A70,H⟩:=H
  replace H:(some t425)=some r:=H
  have A7:=Aside0.mk A70
  clear A70
  obtain rfl:=Option.some.inj H
  go_enter Tryz.func177,Tryz.ntmps177
  go_wp2_with (first|((with_reducible refine zap (f:=128) rfl ?_); refine zaA (some 11) rfl rfl Tryz.func128 (by kernel_rfl) rfl #[.string a0,.string a1] rfl (by (try simp only [List.map_toArray,List.map_cons,List.map_nil]); first|done|rfl|(simp only [List.length_drop,List.length_take]; rfl)) ?_; (with_reducible refine (c1_Divide.calls a0 a1 t421 t422 _ A3.out).mono ?_); rintro e w8 ⟨rfl,hb⟩; refine ⟨_,rfl,?_⟩; have n0_:=Aside0.mk (zak (by repeat (first|(with_reducible first|exact HB.out|apply zab|apply zaa|apply zac)|exact HB.out)) hb); clear HB; have HB:=n0_; clear n0_; (try clear hb); (try clear hb2); (try clear hk); (try clear hi))|((with_reducible refine zap (f:=131) rfl ?_); refine zaA (some 15) rfl rfl Tryz.func131 (by kernel_rfl) rfl #[.string t422,.string (⟨#[50]⟩:ByteArray)] rfl (by (try simp only [List.map_toArray,List.map_cons,List.map_nil]); first|done|rfl|(simp only [List.length_drop,List.length_take]; rfl)) ?_; (with_reducible refine (c1_Times.calls t422 (⟨#[50]⟩:ByteArray) t423 _ A4.out).mono ?_); rintro e w9 ⟨rfl,hb⟩; refine ⟨_,rfl,?_⟩; have n0_:=Aside0.mk (zak (by repeat (first|(with_reducible first|exact HB.out|apply zab|apply zaa|apply zac)|exact HB.out)) hb); clear HB; have HB:=n0_; clear n0_; (try clear hb); (try clear hb2); (try clear hk); (try clear hi))|((with_reducible refine zap (f:=147) rfl ?_); refine zaA (some 17) rfl rfl Tryz.func147 (by kernel_rfl) rfl #[.string t423,.string a1] rfl (by (try simp only [List.map_toArray,List.map_cons,List.map_nil]); first|done|rfl|(simp only [List.length_drop,List.length_take]; rfl)) ?_; (with_reducible refine (c1_Compare.calls t423 a1 t424 _ A5.out).mono ?_); rintro e w10 ⟨rfl,hb⟩; refine ⟨_,rfl,?_⟩; have n0_:=Aside0.mk (zak (by repeat (first|(with_reducible first|exact HB.out|apply zab|apply zaa|apply zac)|exact HB.out)) hb); clear HB; have HB:=n0_; clear n0_; (try clear hb); (try clear hb2); (try clear hk); (try clear hi))|((with_reducible refine zap (f:=129) rfl ?_); refine zaA (some 35) rfl rfl Tryz.func129 (by kernel_rfl) rfl #[.string t421,.string (⟨#[49]⟩:ByteArray)] rfl (by (try simp only [List.map_toArray,List.map_cons,List.map_nil]); first|done|rfl|(simp only [List.length_drop,List.length_take]; rfl)) ?_; (with_reducible refine (c1_Plus.calls t421 (⟨#[49]⟩:ByteArray) t425 _ A7.out).mono ?_); rintro e w11 ⟨rfl,hb⟩; refine ⟨_,rfl,?_⟩; have n0_:=Aside0.mk (zak (by repeat (first|(with_reducible first|exact HB.out|apply zab|apply zaa|apply zac)|exact HB.out)) hb); clear HB; have HB:=n0_; clear n0_; (try clear hb); (try clear hb2); (try clear hk); (try clear hi)))
  go_ret
  exact ⟨by first|rfl|(simp [zan,zam]<;>rfl)|(simp [*,zan,zam]<;>rfl),by repeat (first|(with_reducible first|exact HB.out|apply zab|apply zaa|apply zac)|exact HB.out)⟩
 ·rw [if_neg c6] at H
  have c6b0:decide (0<t424)=false:=decide_eq_false c6
  clear c6
  by_cases c12:t424=0
  ·rw [if_pos c12] at H
   have c12b0:(t424 == 0)=true:=beq_iff_eq.mpr c12
   clear c12
   obtain ⟨ji13,hji13⟩:∃ j_:Int,(wrap64 ((t421.size:Int)-1))=j_:=⟨_,rfl⟩
   replace H:(if 0≤(ji13) then (if (ji13)<(t421.size:Int) then (if ((((bt t421 (ji13))-48)%256)%2)=1 then ((c1_Plus.f t421 (⟨#[49]⟩:ByteArray)).bind fun t426=>(some t426)) else (some t421)) else (none)) else (none))=some r:=by first|(rw [hji13] at H; exact H)|(simp only [hji13] at H ⊢; exact H)
   (try rw [hji13] at A3)
   (try rw [hji13] at A4)
   (try rw [hji13] at A5)
   have hji13w:(IntKind.i64.wrap ((t421.size:Int)-1))=ji13:=(i64_w _).trans hji13
   by_cases c14:0≤(ji13)
   ·rw [if_pos c14] at H
    have c14b0:decide (0≤(ji13))=true:=decide_eq_true c14
    clear c14
    by_cases c15:(ji13)<(t421.size:Int)
    ·rw [if_pos c15] at H
     have c15b0:decide ((ji13)<(t421.size:Int))=true:=decide_eq_true c15
     clear c15
     by_cases c17:((((bt t421 (ji13))-48)%256)%2)=1
     ·rw [if_pos c17] at H
      have c17b0:(((((bt t421 (ji13))-48)%256)%2) == 1)=true:=beq_iff_eq.mpr c17
      clear c17
      replace H:=Option.bind_eq_some_iff.mp H
      obtain ⟨t426,A180,H⟩:=H
      replace H:(some t426)=some r:=H
      have A18:=Aside0.mk A180
      clear A180
      obtain rfl:=Option.some.inj H
      go_enter Tryz.func177,Tryz.ntmps177
      go_wp2_with (first|((with_reducible refine zap (f:=128) rfl ?_); refine zaA (some 11) rfl rfl Tryz.func128 (by kernel_rfl) rfl #[.string a0,.string a1] rfl (by (try simp only [List.map_toArray,List.map_cons,List.map_nil]); first|done|rfl|(simp only [List.length_drop,List.length_take]; rfl)) ?_; (with_reducible refine (c1_Divide.calls a0 a1 t421 t422 _ A3.out).mono ?_); rintro e w19 ⟨rfl,hb⟩; refine ⟨_,rfl,?_⟩; have n0_:=Aside0.mk (zak (by repeat (first|(with_reducible first|exact HB.out|apply zab|apply zaa|apply zac)|exact HB.out)) hb); clear HB; have HB:=n0_; clear n0_; (try clear hb); (try clear hb2); (try clear hk); (try clear hi))|((with_reducible refine zap (f:=131) rfl ?_); refine zaA (some 15) rfl rfl Tryz.func131 (by kernel_rfl) rfl #[.string t422,.string (⟨#[50]⟩:ByteArray)] rfl (by (try simp only [List.map_toArray,List.map_cons,List.map_nil]); first|done|rfl|(simp only [List.length_drop,List.length_take]; rfl)) ?_; (with_reducible refine (c1_Times.calls t422 (⟨#[50]⟩:ByteArray) t423 _ A4.out).mono ?_); rintro e w20 ⟨rfl,hb⟩; refine ⟨_,rfl,?_⟩; have n0_:=Aside0.mk (zak (by repeat (first|(with_reducible first|exact HB.out|apply zab|apply zaa|apply zac)|exact HB.out)) hb); clear HB; have HB:=n0_; clear n0_; (try clear hb); (try clear hb2); (try clear hk); (try clear hi))|((with_reducible refine zap (f:=147) rfl ?_); refine zaA (some 17) rfl rfl Tryz.func147 (by kernel_rfl) rfl #[.string t423,.string a1] rfl (by (try simp only [List.map_toArray,List.map_cons,List.map_nil]); first|done|rfl|(simp only [List.length_drop,List.length_take]; rfl)) ?_; (with_reducible refine (c1_Compare.calls t423 a1 t424 _ A5.out).mono ?_); rintro e w21 ⟨rfl,hb⟩; refine ⟨_,rfl,?_⟩; have n0_:=Aside0.mk (zak (by repeat (first|(with_reducible first|exact HB.out|apply zab|apply zaa|apply zac)|exact HB.out)) hb); clear HB; have HB:=n0_; clear n0_; (try clear hb); (try clear hb2); (try clear hk); (try clear hi); have p16:0≤((ji13):Int):=of_decide_eq_true (by first|(with_reducible assumption)|assumption); have q16:(ji13)<(t421.size:Int):=of_decide_eq_true (by first|(with_reducible assumption)|assumption); have hx16:=bt_at t421 (ji13); replace p16:=eq_true p16; replace q16:=eq_true q16)|((with_reducible refine zap (f:=129) rfl ?_); refine zaA (some 35) rfl rfl Tryz.func129 (by kernel_rfl) rfl #[.string t421,.string (⟨#[49]⟩:ByteArray)] rfl (by (try simp only [List.map_toArray,List.map_cons,List.map_nil]); first|done|rfl|(simp only [List.length_drop,List.length_take]; rfl)) ?_; (with_reducible refine (c1_Plus.calls t421 (⟨#[49]⟩:ByteArray) t426 _ A18.out).mono ?_); rintro e w22 ⟨rfl,hb⟩; refine ⟨_,rfl,?_⟩; have n0_:=Aside0.mk (zak (by repeat (first|(with_reducible first|exact HB.out|apply zab|apply zaa|apply zac)|exact HB.out)) hb); clear HB; have HB:=n0_; clear n0_; (try clear hb); (try clear hb2); (try clear hk); (try clear hi)))
      go_ret
      exact ⟨by first|rfl|(simp [zan,zam]<;>rfl)|(simp only [←hji13]; first|rfl|(simp [zan,zam]<;>rfl))|(simp [*,zan,zam]<;>rfl),by repeat (first|(with_reducible first|exact HB.out|apply zab|apply zaa|apply zac)|exact HB.out)⟩
     ·rw [if_neg c17] at H
      obtain rfl:=Option.some.inj H
      go_enter Tryz.func177,Tryz.ntmps177
      go_wp2_with (first|((with_reducible refine zap (f:=128) rfl ?_); refine zaA (some 11) rfl rfl Tryz.func128 (by kernel_rfl) rfl #[.string a0,.string a1] rfl (by (try simp only [List.map_toArray,List.map_cons,List.map_nil]); first|done|rfl|(simp only [List.length_drop,List.length_take]; rfl)) ?_; (with_reducible refine (c1_Divide.calls a0 a1 t421 t422 _ A3.out).mono ?_); rintro e w23 ⟨rfl,hb⟩; refine ⟨_,rfl,?_⟩; have n0_:=Aside0.mk (zak (by repeat (first|(with_reducible first|exact HB.out|apply zab|apply zaa|apply zac)|exact HB.out)) hb); clear HB; have HB:=n0_; clear n0_; (try clear hb); (try clear hb2); (try clear hk); (try clear hi))|((with_reducible refine zap (f:=131) rfl ?_); refine zaA (some 15) rfl rfl Tryz.func131 (by kernel_rfl) rfl #[.string t422,.string (⟨#[50]⟩:ByteArray)] rfl (by (try simp only [List.map_toArray,List.map_cons,List.map_nil]); first|done|rfl|(simp only [List.length_drop,List.length_take]; rfl)) ?_; (with_reducible refine (c1_Times.calls t422 (⟨#[50]⟩:ByteArray) t423 _ A4.out).mono ?_); rintro e w24 ⟨rfl,hb⟩; refine ⟨_,rfl,?_⟩; have n0_:=Aside0.mk (zak (by repeat (first|(with_reducible first|exact HB.out|apply zab|apply zaa|apply zac)|exact HB.out)) hb); clear HB; have HB:=n0_; clear n0_; (try clear hb); (try clear hb2); (try clear hk); (try clear hi))|((with_reducible refine zap (f:=147) rfl ?_); refine zaA (some 17) rfl rfl Tryz.func147 (by kernel_rfl) rfl #[.string t423,.string a1] rfl (by (try simp only [List.map_toArray,List.map_cons,List.map_nil]); first|done|rfl|(simp only [List.length_drop,List.length_take]; rfl)) ?_; (with_reducible refine (c1_Compare.calls t423 a1 t424 _ A5.out).mono ?_); rintro e w25 ⟨rfl,hb⟩; refine ⟨_,rfl,?_⟩; have n0_:=Aside0.mk (zak (by repeat (first|(with_reducible first|exact HB.out|apply zab|apply zaa|apply zac)|exact HB.out)) hb); clear HB; have HB:=n0_; clear n0_; (try clear hb); (try clear hb2); (try clear hk); (try clear hi); have p16:0≤((ji13):Int):=of_decide_eq_true (by first|(with_reducible assumption)|assumption); have q16:(ji13)<(t421.size:Int):=of_decide_eq_true (by first|(with_reducible assumption)|assumption); have hx16:=bt_at t421 (ji13); replace p16:=eq_true p16; replace q16:=eq_true q16))
      go_ret
      exact ⟨by first|rfl|(simp [zan,zam]<;>rfl)|(simp only [←hji13]; first|rfl|(simp [zan,zam]<;>rfl))|(simp [*,zan,zam]<;>rfl),by repeat (first|(with_reducible first|exact HB.out|apply zab|apply zaa|apply zac)|exact HB.out)⟩
    ·rw [if_neg c15] at H
     exact absurd H (by simp)
   ·rw [if_neg c14] at H
    exact absurd H (by simp)
  ·rw [if_neg c12] at H
   obtain rfl:=Option.some.inj H
   go_enter Tryz.func177,Tryz.ntmps177
   go_wp2_with (first|((with_reducible refine zap (f:=128) rfl ?_); refine zaA (some 11) rfl rfl Tryz.func128 (by kernel_rfl) rfl #[.string a0,.string a1] rfl (by (try simp only [List.map_toArray,List.map_cons,List.map_nil]); first|done|rfl|(simp only [List.length_drop,List.length_take]; rfl)) ?_; (with_reducible refine (c1_Divide.calls a0 a1 t421 t422 _ A3.out).mono ?_); rintro e w26 ⟨rfl,hb⟩; refine ⟨_,rfl,?_⟩; have n0_:=Aside0.mk (zak (by repeat (first|(with_reducible first|exact HB.out|apply zab|apply zaa|apply zac)|exact HB.out)) hb); clear HB; have HB:=n0_; clear n0_; (try clear hb); (try clear hb2); (try clear hk); (try clear hi))|((with_reducible refine zap (f:=131) rfl ?_); refine zaA (some 15) rfl rfl Tryz.func131 (by kernel_rfl) rfl #[.string t422,.string (⟨#[50]⟩:ByteArray)] rfl (by (try simp only [List.map_toArray,List.map_cons,List.map_nil]); first|done|rfl|(simp only [List.length_drop,List.length_take]; rfl)) ?_; (with_reducible refine (c1_Times.calls t422 (⟨#[50]⟩:ByteArray) t423 _ A4.out).mono ?_); rintro e w27 ⟨rfl,hb⟩; refine ⟨_,rfl,?_⟩; have n0_:=Aside0.mk (zak (by repeat (first|(with_reducible first|exact HB.out|apply zab|apply zaa|apply zac)|exact HB.out)) hb); clear HB; have HB:=n0_; clear n0_; (try clear hb); (try clear hb2); (try clear hk); (try clear hi))|((with_reducible refine zap (f:=147) rfl ?_); refine zaA (some 17) rfl rfl Tryz.func147 (by kernel_rfl) rfl #[.string t423,.string a1] rfl (by (try simp only [List.map_toArray,List.map_cons,List.map_nil]); first|done|rfl|(simp only [List.length_drop,List.length_take]; rfl)) ?_; (with_reducible refine (c1_Compare.calls t423 a1 t424 _ A5.out).mono ?_); rintro e w28 ⟨rfl,hb⟩; refine ⟨_,rfl,?_⟩; have n0_:=Aside0.mk (zak (by repeat (first|(with_reducible first|exact HB.out|apply zab|apply zaa|apply zac)|exact HB.out)) hb); clear HB; have HB:=n0_; clear n0_; (try clear hb); (try clear hb2); (try clear hk); (try clear hi)))
   go_ret
   exact ⟨by first|rfl|(simp [zan,zam]<;>rfl)|(simp [*,zan,zam]<;>rfl),by repeat (first|(with_reducible first|exact HB.out|apply zab|apply zaa|apply zac)|exact HB.out)⟩
noncomputable def c2_Steps.f (a0_0:Bool) (a0_1:ByteArray) (a0_2:ByteArray) (a1:Int):Option (ByteArray):=if a1≥0 then ((c2_Zeros.f a1).bind fun t428=>(if 1+t428.size≤9223372036854775807 then ((c1_Times.f a0_1 ((⟨#[49]⟩:ByteArray)++t428)).bind fun t429=>((c2_Near.f t429 a0_2).bind fun t430=>(some t430))) else (none))) else ((c2_Zeros.f (wrap64 (-a1))).bind fun t431=>(if 1+t431.size≤9223372036854775807 then ((c1_Times.f a0_2 ((⟨#[49]⟩:ByteArray)++t431)).bind fun t432=>((c2_Near.f a0_1 t432).bind fun t433=>(some t433))) else (none)))
noncomputable def c2_Steps.T2:Bool×List (List Nat×List Nat):=(true,[([],[]),([0],[0]),([],[]),([2],[2]),([3],[3]),([1,4,3],[1,4]),([],[]),([6],[6]),([5,7,5],[5,7]),([8,8,0,1,2,3,4,5,6,7,8],[8])])
noncomputable def c2_Steps.B2:List Nat:=[0,1,0,4,12,31,0,64,255,511]
theorem c2_Steps.tab2:rtab .any (opsOf Tryz.f96 2)=c2_Steps.T2:=by kernel_rfl
theorem c2_Steps.bits2:waitsOk c2_Steps.T2.2 c2_Steps.B2=true:=by kernel_rfl
noncomputable def c2_Steps.T3:Bool×List (List Nat×List Nat):=(true,[([],[]),([0],[0]),([],[]),([2],[2]),([],[]),([4],[4]),([5],[5]),([6],[6]),([3,7,6],[3,7]),([1,8,8],[1,8]),([9,9,0,1,2,3,4,5,6,7,8,9],[9])])
noncomputable def c2_Steps.B3:List Nat:=[0,1,0,4,0,16,48,112,252,511,1023]
theorem c2_Steps.tab3:rtab .any (opsOf Tryz.f96 3)=c2_Steps.T3:=by kernel_rfl
theorem c2_Steps.bits3:waitsOk c2_Steps.T3.2 c2_Steps.B3=true:=by kernel_rfl
theorem c2_Steps.calls (a0_0:Bool) (a0_1:ByteArray) (a0_2:ByteArray) (a1:Int) (r:ByteArray) (w:World) (h:c2_Steps.f a0_0 a0_1 a0_2 a1=some r) :
  Calls Tryz.prog 96 #[.agg #[.bool a0_0,.string a0_1,.string a0_2],.int .i64 a1] w fun e w'=>e = .returned (.string r)∧Below w.heap.size w w':=by
 have hu66:=Tryz.underlying66
 have HB:=Aside0.mk (Below.refl w.heap.size w)
 have H:(if a1≥0 then ((c2_Zeros.f a1).bind fun t428=>(if 1+t428.size≤9223372036854775807 then ((c1_Times.f a0_1 ((⟨#[49]⟩:ByteArray)++t428)).bind fun t429=>((c2_Near.f t429 a0_2).bind fun t430=>(some t430))) else (none))) else ((c2_Zeros.f (wrap64 (-a1))).bind fun t431=>(if 1+t431.size≤9223372036854775807 then ((c1_Times.f a0_2 ((⟨#[49]⟩:ByteArray)++t431)).bind fun t432=>((c2_Near.f a0_1 t432).bind fun t433=>(some t433))) else (none))))=some r:=h
 clear h
 by_cases c3:a1≥0
 ·rw [if_pos c3] at H
  have c3b0:decide (0≤a1)=true:=decide_eq_true c3
  clear c3
  replace H:=Option.bind_eq_some_iff.mp H
  obtain ⟨t428,A40,H⟩:=H
  replace H:(if 1+t428.size≤9223372036854775807 then ((c1_Times.f a0_1 ((⟨#[49]⟩:ByteArray)++t428)).bind fun t429=>((c2_Near.f t429 a0_2).bind fun t430=>(some t430))) else (none))=some r:=H
  have A4:=Aside0.mk A40
  clear A40
  by_cases c5:1+t428.size≤9223372036854775807
  ·rw [if_pos c5] at H
   try have c5b2:(9223372036854775807<1+t428.size)=False:=eq_false (Nat.not_lt.2 c5)
   replace H:=Option.bind_eq_some_iff.mp H
   obtain ⟨t429,A60,H⟩:=H
   replace H:((c2_Near.f t429 a0_2).bind fun t430=>(some t430))=some r:=H
   have A6:=Aside0.mk A60
   clear A60
   replace H:=Option.bind_eq_some_iff.mp H
   obtain ⟨t430,A70,H⟩:=H
   replace H:(some t430)=some r:=H
   have A7:=Aside0.mk A70
   clear A70
   obtain rfl:=Option.some.inj H
   go_enter Tryz.func96,Tryz.ntmps96
   try go_wp2_with (first|((with_reducible refine zau (N:=2) rfl ?_); refine zas ?hg (N:=2) ?hd (cs:=#[.bool a0_0,.string a0_1,.string a0_2]) (t:=66) ?hr ?_; (case hd=>rfl); (case hg=>rfl); (case hr=>first|(go_simp; done)|(go_simp; rfl)); intro gb427 hg w8 hbox hb; have n0_:=Aside0.mk (zak (by repeat (first|(with_reducible first|exact HB.out|apply zab|apply zaa|apply zac)|exact HB.out)) hb); have n1_:=Aside0.mk (hbox); have n2_:=Aside0.mk ((by rw [hg]; exact (zal (by repeat (first|(with_reducible first|exact HB.out|apply zab|apply zaa|apply zac)|exact HB.out))):w.heap.size≤gb427)); have n3_:=Aside0.mk ((by rw [hg]; exact (zal (by repeat (first|(with_reducible first|exact HB.out|apply zab|apply zaa|apply zac)|exact HB.out))):w.heap.size≤gb427)); clear HB; have HB:=n0_; have BK427:=n1_; have GW427:=n2_; have GE427:=n3_; clear n0_ n1_ n2_ n3_; clear hb hbox hg))
   have n0_:=Aside0.mk (zai BK427.out)
   have n1_:=Aside0.mk (zac HB.out)
   clear BK427
   clear HB
   have BK427:=n0_
   have HB:=n1_
   clear n0_ n1_
   refine zbY (n:=10) (S:=fun w'=>w'.cell? ⟨gb427,0,none⟩=some (.bool a0_0)∧w'.cell? ⟨gb427,1,none⟩=some (.string a0_1)∧w'.cell? ⟨gb427,2,none⟩=some (.string a0_2)) (ds:=[]) #[false,false,false,false,false,false,false,false,false,false] (by kernel_rfl) rfl rfl ⟨(zad BK427.out 0).trans rfl,(zad BK427.out 1).trans rfl,(zad BK427.out 2).trans rfl⟩ (fun hHeld => ?_); refine zcG c2_Steps.tab2 c2_Steps.bits2 (fun HT_ HW_ => ?_)
   generalize w8.drew=w9 at BK427 HB hHeld ⊢
   refine pure_ (i:=0) (N:=some 7) (v:=?_) (a':=?_) #[true,false,false,false,false,false,false,false,false,false] rfl rfl (za1 HT_.out (by kernel_rfl)) (fun _ _ _ h=>h) (Or.inl ⟨by rfl,?_⟩) ?_ ?_
   rotate_left
   ·intro w'
    go_simp
    with_reducible rfl
   rotate_left
   ·simp only [Act.put,List.setIfInBounds_toArray,List.set_cons_zero,List.set_cons_succ,i64_w,i32_w]
    rfl
   refine pure_ (i:=2) (N:=some 9) (v:=?_) (a':=?_) #[true,false,true,false,false,false,false,false,false,false] rfl rfl (za1 HT_.out (by kernel_rfl)) (fun _ _ _ h=>h) (Or.inl ⟨by rfl,?_⟩) ?_ ?_
   rotate_left
   ·intro w'
    go_simp
    with_reducible rfl
   rotate_left
   ·simp only [Act.put,List.setIfInBounds_toArray,List.set_cons_zero,List.set_cons_succ,i64_w,i32_w]
    rfl
   refine pure_ (i:=6) (N:=some 13) (v:=?_) (a':=?_) #[true,false,true,false,false,false,true,false,false,false] rfl rfl (za1 HT_.out (by kernel_rfl)) (fun _ _ _ h=>h) (Or.inl ⟨by rfl,?_⟩) ?_ ?_
   rotate_left
   ·intro w'
    go_simp
    with_reducible rfl
   rotate_left
   ·simp only [Act.put,List.setIfInBounds_toArray,List.set_cons_zero,List.set_cons_succ,i64_w,i32_w]
    rfl
   refine take_ (i:=1) (N:=some 8) (v:=?_) (a':=?_) #[true,true,true,false,false,false,true,false,false,false] rfl rfl (zbj HT_.out HW_.out (by kernel_rfl)) (fun _ _ _ h=>h) (Or.inl ⟨by rfl,?_⟩) hHeld ?_ ?_
   rotate_left
   ·rintro w' ⟨s0,s1,s2⟩
    go_simp
    with_reducible rfl
   rotate_left
   ·simp only [Act.put,List.setIfInBounds_toArray,List.set_cons_zero,List.set_cons_succ,i64_w,i32_w]
    rfl
   refine take_ (i:=7) (N:=some 14) (v:=?_) (a':=?_) #[true,true,true,false,false,false,true,true,false,false] rfl rfl (zbj HT_.out HW_.out (by kernel_rfl)) (fun _ _ _ h=>h) (Or.inl ⟨by rfl,?_⟩) hHeld ?_ ?_
   rotate_left
   ·rintro w' ⟨s0,s1,s2⟩
    go_simp
    with_reducible rfl
   rotate_left
   ·simp only [Act.put,List.setIfInBounds_toArray,List.set_cons_zero,List.set_cons_succ,i64_w,i32_w]
    rfl
   refine one_ (i:=3) (N:=some 10) #[true,true,true,true,false,false,true,true,false,false] rfl rfl (zcf HT_.out (by kernel_rfl)) (by decide) (fun K hK => ?_)
   refine goes_ Tryz.func65 (by kernel_rfl) rfl #[.int .i64 a1] (by rfl) rfl rfl (by (try simp only [List.map_toArray,List.map_cons,List.map_nil]); first|done|rfl|(simp only [List.length_drop,List.length_take]; rfl)) ?_
   with_reducible refine (c2_Zeros.calls a1 t428 _ A4.out).mono ?_
   rintro e w10 ⟨rfl,hb⟩
   refine ⟨_,rfl,?_⟩
   have n0_:=Aside0.mk (zao (g:=gb427) (o:=.cells #[.bool a0_0,.string a0_1,.string a0_2] 66 (0,0)) (by (with_reducible repeat (first|refine zaf ?_ _|refine zai ?_|refine zag ?_ _)); exact BK427.out) hb)
   have n1_:=Aside0.mk (zak (by repeat (first|(with_reducible first|exact HB.out|apply zab|apply zaa|apply zac|refine zae ?_ GE427.out)|exact HB.out)) hb)
   clear BK427
   clear HB
   have BK427:=n0_
   have HB:=n1_
   clear n0_ n1_
   refine hK.out _ _ ⟨(zad BK427.out 0).trans rfl,(zad BK427.out 1).trans rfl,(zad BK427.out 2).trans rfl⟩ (fun hHeld => ?_)
   clear hK K
   refine norm_ (a':=?_) ?_ ?_
   rotate_left
   ·show Act.put _ (some 10) _=_
    simp only [Act.put,List.setIfInBounds_toArray,List.set_cons_zero,List.set_cons_succ,i64_w,i32_w]
    rfl
   refine pure_ (i:=4) (N:=some 11) (v:=?_) (a':=?_) #[true,true,true,true,true,false,true,true,false,false] rfl rfl (za1 HT_.out (by kernel_rfl)) (fun _ _ _ h=>h) (Or.inl ⟨by rfl,?_⟩) ?_ ?_
   rotate_left
   ·intro w'
    go_simp
    with_reducible rfl
   rotate_left
   ·simp only [Act.put,List.setIfInBounds_toArray,List.set_cons_zero,List.set_cons_succ,i64_w,i32_w]
    rfl
   refine one_ (i:=5) (N:=some 12) #[true,true,true,true,true,true,true,true,false,false] rfl rfl (zcf HT_.out (by kernel_rfl)) (by decide) (fun K hK => ?_)
   refine goes_ Tryz.func131 (by kernel_rfl) rfl #[.string a0_1,.string ((⟨#[49]⟩:ByteArray)++t428)] (by rfl) rfl rfl (by (try simp only [List.map_toArray,List.map_cons,List.map_nil]); first|done|rfl|(simp only [List.length_drop,List.length_take]; rfl)) ?_
   with_reducible refine (c1_Times.calls a0_1 ((⟨#[49]⟩:ByteArray)++t428) t429 _ A6.out).mono ?_
   rintro e w11 ⟨rfl,hb⟩
   refine ⟨_,rfl,?_⟩
   have n0_:=Aside0.mk (zao (g:=gb427) (o:=.cells #[.bool a0_0,.string a0_1,.string a0_2] 66 (0,0)) (by (with_reducible repeat (first|refine zaf ?_ _|refine zai ?_|refine zag ?_ _)); exact BK427.out) hb)
   have n1_:=Aside0.mk (zak (by repeat (first|(with_reducible first|exact HB.out|apply zab|apply zaa|apply zac|refine zae ?_ GE427.out)|exact HB.out)) hb)
   clear BK427
   clear HB
   have BK427:=n0_
   have HB:=n1_
   clear n0_ n1_
   refine hK.out _ _ ⟨(zad BK427.out 0).trans rfl,(zad BK427.out 1).trans rfl,(zad BK427.out 2).trans rfl⟩ (fun hHeld => ?_)
   clear hK K
   refine norm_ (a':=?_) ?_ ?_
   rotate_left
   ·show Act.put _ (some 12) _=_
    simp only [Act.put,List.setIfInBounds_toArray,List.set_cons_zero,List.set_cons_succ,i64_w,i32_w]
    rfl
   refine one_ (i:=8) (N:=some 15) #[true,true,true,true,true,true,true,true,true,false] rfl rfl (zcf HT_.out (by kernel_rfl)) (by decide) (fun K hK => ?_)
   refine goes_ Tryz.func177 (by kernel_rfl) rfl #[.string t429,.string a0_2] (by rfl) rfl rfl (by (try simp only [List.map_toArray,List.map_cons,List.map_nil]); first|done|rfl|(simp only [List.length_drop,List.length_take]; rfl)) ?_
   with_reducible refine (c2_Near.calls t429 a0_2 t430 _ A7.out).mono ?_
   rintro e w12 ⟨rfl,hb⟩
   refine ⟨_,rfl,?_⟩
   have n0_:=Aside0.mk (zao (g:=gb427) (o:=.cells #[.bool a0_0,.string a0_1,.string a0_2] 66 (0,0)) (by (with_reducible repeat (first|refine zaf ?_ _|refine zai ?_|refine zag ?_ _)); exact BK427.out) hb)
   have n1_:=Aside0.mk (zak (by repeat (first|(with_reducible first|exact HB.out|apply zab|apply zaa|apply zac|refine zae ?_ GE427.out)|exact HB.out)) hb)
   clear BK427
   clear HB
   have BK427:=n0_
   have HB:=n1_
   clear n0_ n1_
   refine hK.out _ _ ⟨(zad BK427.out 0).trans rfl,(zad BK427.out 1).trans rfl,(zad BK427.out 2).trans rfl⟩ (fun hHeld => ?_)
   clear hK K
   refine norm_ (a':=?_) ?_ ?_
   rotate_left
   ·show Act.put _ (some 15) _=_
    simp only [Act.put,List.setIfInBounds_toArray,List.set_cons_zero,List.set_cons_succ,i64_w,i32_w]
    rfl
   refine pure_ (i:=9) (N:=some 4) (v:=?_) (a':=?_) #[true,true,true,true,true,true,true,true,true,true] rfl rfl (za1 HT_.out (by kernel_rfl)) (fun _ _ _ h=>h) (Or.inl ⟨by rfl,?_⟩) ?_ ?_
   rotate_left
   ·intro w'
    go_simp
    with_reducible rfl
   rotate_left
   ·simp only [Act.put,List.setIfInBounds_toArray,List.set_cons_zero,List.set_cons_succ,i64_w,i32_w]
    rfl
   refine done_ (done_of HT_.out (by kernel_rfl)) ?_
   try go_wp2
   go_ret
   exact ⟨by first|rfl|(simp [zan,zam]<;>rfl)|(simp [*,zan,zam]<;>rfl),by repeat (first|(with_reducible first|exact HB.out|apply zab|apply zaa|apply zac|refine zae ?_ GE427.out)|exact HB.out)⟩
  ·rw [if_neg c5] at H
   exact absurd H (by simp)
 ·rw [if_neg c3] at H
  have c3b0:decide (0≤a1)=false:=decide_eq_false c3
  clear c3
  replace H:=Option.bind_eq_some_iff.mp H
  obtain ⟨t431,A130,H⟩:=H
  replace H:(if 1+t431.size≤9223372036854775807 then ((c1_Times.f a0_2 ((⟨#[49]⟩:ByteArray)++t431)).bind fun t432=>((c2_Near.f a0_1 t432).bind fun t433=>(some t433))) else (none))=some r:=H
  have A13:=Aside0.mk A130
  clear A130
  by_cases c14:1+t431.size≤9223372036854775807
  ·rw [if_pos c14] at H
   try have c14b2:(9223372036854775807<1+t431.size)=False:=eq_false (Nat.not_lt.2 c14)
   replace H:=Option.bind_eq_some_iff.mp H
   obtain ⟨t432,A150,H⟩:=H
   replace H:((c2_Near.f a0_1 t432).bind fun t433=>(some t433))=some r:=H
   have A15:=Aside0.mk A150
   clear A150
   replace H:=Option.bind_eq_some_iff.mp H
   obtain ⟨t433,A160,H⟩:=H
   replace H:(some t433)=some r:=H
   have A16:=Aside0.mk A160
   clear A160
   obtain rfl:=Option.some.inj H
   go_enter Tryz.func96,Tryz.ntmps96
   try go_wp2_with (first|((with_reducible refine zau (N:=2) rfl ?_); refine zas ?hg (N:=2) ?hd (cs:=#[.bool a0_0,.string a0_1,.string a0_2]) (t:=66) ?hr ?_; (case hd=>rfl); (case hg=>rfl); (case hr=>first|(go_simp; done)|(go_simp; rfl)); intro gb427 hg w17 hbox hb; have n0_:=Aside0.mk (zak (by repeat (first|(with_reducible first|exact HB.out|apply zab|apply zaa|apply zac)|exact HB.out)) hb); have n1_:=Aside0.mk (hbox); have n2_:=Aside0.mk ((by rw [hg]; exact (zal (by repeat (first|(with_reducible first|exact HB.out|apply zab|apply zaa|apply zac)|exact HB.out))):w.heap.size≤gb427)); have n3_:=Aside0.mk ((by rw [hg]; exact (zal (by repeat (first|(with_reducible first|exact HB.out|apply zab|apply zaa|apply zac)|exact HB.out))):w.heap.size≤gb427)); clear HB; have HB:=n0_; have BK427:=n1_; have GW427:=n2_; have GE427:=n3_; clear n0_ n1_ n2_ n3_; clear hb hbox hg))
   have n0_:=Aside0.mk (zai BK427.out)
   have n1_:=Aside0.mk (zac HB.out)
   clear BK427
   clear HB
   have BK427:=n0_
   have HB:=n1_
   clear n0_ n1_
   refine zbY (n:=11) (S:=fun w'=>w'.cell? ⟨gb427,0,none⟩=some (.bool a0_0)∧w'.cell? ⟨gb427,1,none⟩=some (.string a0_1)∧w'.cell? ⟨gb427,2,none⟩=some (.string a0_2)) (ds:=[]) #[false,false,false,false,false,false,false,false,false,false,false] (by kernel_rfl) rfl rfl ⟨(zad BK427.out 0).trans rfl,(zad BK427.out 1).trans rfl,(zad BK427.out 2).trans rfl⟩ (fun hHeld => ?_); refine zcG c2_Steps.tab3 c2_Steps.bits3 (fun HT_ HW_ => ?_)
   generalize w17.drew=w18 at BK427 HB hHeld ⊢
   refine pure_ (i:=0) (N:=some 16) (v:=?_) (a':=?_) #[true,false,false,false,false,false,false,false,false,false,false] rfl rfl (za1 HT_.out (by kernel_rfl)) (fun _ _ _ h=>h) (Or.inl ⟨by rfl,?_⟩) ?_ ?_
   rotate_left
   ·intro w'
    go_simp
    with_reducible rfl
   rotate_left
   ·simp only [Act.put,List.setIfInBounds_toArray,List.set_cons_zero,List.set_cons_succ,i64_w,i32_w]
    rfl
   refine pure_ (i:=2) (N:=some 18) (v:=?_) (a':=?_) #[true,false,true,false,false,false,false,false,false,false,false] rfl rfl (za1 HT_.out (by kernel_rfl)) (fun _ _ _ h=>h) (Or.inl ⟨by rfl,?_⟩) ?_ ?_
   rotate_left
   ·intro w'
    go_simp
    with_reducible rfl
   rotate_left
   ·simp only [Act.put,List.setIfInBounds_toArray,List.set_cons_zero,List.set_cons_succ,i64_w,i32_w]
    rfl
   refine pure_ (i:=4) (N:=some 20) (v:=?_) (a':=?_) #[true,false,true,false,true,false,false,false,false,false,false] rfl rfl (za1 HT_.out (by kernel_rfl)) (fun _ _ _ h=>h) (Or.inl ⟨by rfl,?_⟩) ?_ ?_
   rotate_left
   ·intro w'
    go_simp
    with_reducible rfl
   rotate_left
   ·simp only [Act.put,List.setIfInBounds_toArray,List.set_cons_zero,List.set_cons_succ,i64_w,i32_w]
    rfl
   refine pure_ (i:=5) (N:=some 21) (v:=?_) (a':=?_) #[true,false,true,false,true,true,false,false,false,false,false] rfl rfl (za1 HT_.out (by kernel_rfl)) (fun _ _ _ h=>h) (Or.inl ⟨by rfl,?_⟩) ?_ ?_
   rotate_left
   ·intro w'
    go_simp
    with_reducible rfl
   rotate_left
   ·simp only [Act.put,List.setIfInBounds_toArray,List.set_cons_zero,List.set_cons_succ,i64_w,i32_w]
    rfl
   refine take_ (i:=1) (N:=some 17) (v:=?_) (a':=?_) #[true,true,true,false,true,true,false,false,false,false,false] rfl rfl (zbj HT_.out HW_.out (by kernel_rfl)) (fun _ _ _ h=>h) (Or.inl ⟨by rfl,?_⟩) hHeld ?_ ?_
   rotate_left
   ·rintro w' ⟨s0,s1,s2⟩
    go_simp
    with_reducible rfl
   rotate_left
   ·simp only [Act.put,List.setIfInBounds_toArray,List.set_cons_zero,List.set_cons_succ,i64_w,i32_w]
    rfl
   refine take_ (i:=3) (N:=some 19) (v:=?_) (a':=?_) #[true,true,true,true,true,true,false,false,false,false,false] rfl rfl (zbj HT_.out HW_.out (by kernel_rfl)) (fun _ _ _ h=>h) (Or.inl ⟨by rfl,?_⟩) hHeld ?_ ?_
   rotate_left
   ·rintro w' ⟨s0,s1,s2⟩
    go_simp
    with_reducible rfl
   rotate_left
   ·simp only [Act.put,List.setIfInBounds_toArray,List.set_cons_zero,List.set_cons_succ,i64_w,i32_w]
    rfl
   refine one_ (i:=6) (N:=some 22) #[true,true,true,true,true,true,true,false,false,false,false] rfl rfl (zcf HT_.out (by kernel_rfl)) (by decide) (fun K hK => ?_)
   refine goes_ Tryz.func65 (by kernel_rfl) rfl #[.int .i64 (wrap64 (-a1))] (by rfl) rfl rfl (by (try simp only [List.map_toArray,List.map_cons,List.map_nil]); first|done|rfl|(simp only [List.length_drop,List.length_take]; rfl)) ?_
   with_reducible refine (c2_Zeros.calls (wrap64 (-a1)) t431 _ A13.out).mono ?_
   rintro e w19 ⟨rfl,hb⟩
   refine ⟨_,rfl,?_⟩
   have n0_:=Aside0.mk (zao (g:=gb427) (o:=.cells #[.bool a0_0,.string a0_1,.string a0_2] 66 (0,0)) (by (with_reducible repeat (first|refine zaf ?_ _|refine zai ?_|refine zag ?_ _)); exact BK427.out) hb)
   have n1_:=Aside0.mk (zak (by repeat (first|(with_reducible first|exact HB.out|apply zab|apply zaa|apply zac|refine zae ?_ GE427.out)|exact HB.out)) hb)
   clear BK427
   clear HB
   have BK427:=n0_
   have HB:=n1_
   clear n0_ n1_
   refine hK.out _ _ ⟨(zad BK427.out 0).trans rfl,(zad BK427.out 1).trans rfl,(zad BK427.out 2).trans rfl⟩ (fun hHeld => ?_)
   clear hK K
   refine norm_ (a':=?_) ?_ ?_
   rotate_left
   ·show Act.put _ (some 22) _=_
    simp only [Act.put,List.setIfInBounds_toArray,List.set_cons_zero,List.set_cons_succ,i64_w,i32_w]
    rfl
   refine pure_ (i:=7) (N:=some 23) (v:=?_) (a':=?_) #[true,true,true,true,true,true,true,true,false,false,false] rfl rfl (za1 HT_.out (by kernel_rfl)) (fun _ _ _ h=>h) (Or.inl ⟨by rfl,?_⟩) ?_ ?_
   rotate_left
   ·intro w'
    go_simp
    with_reducible rfl
   rotate_left
   ·simp only [Act.put,List.setIfInBounds_toArray,List.set_cons_zero,List.set_cons_succ,i64_w,i32_w]
    rfl
   refine one_ (i:=8) (N:=some 24) #[true,true,true,true,true,true,true,true,true,false,false] rfl rfl (zcf HT_.out (by kernel_rfl)) (by decide) (fun K hK => ?_)
   refine goes_ Tryz.func131 (by kernel_rfl) rfl #[.string a0_2,.string ((⟨#[49]⟩:ByteArray)++t431)] (by rfl) rfl rfl (by (try simp only [List.map_toArray,List.map_cons,List.map_nil]); first|done|rfl|(simp only [List.length_drop,List.length_take]; rfl)) ?_
   with_reducible refine (c1_Times.calls a0_2 ((⟨#[49]⟩:ByteArray)++t431) t432 _ A15.out).mono ?_
   rintro e w20 ⟨rfl,hb⟩
   refine ⟨_,rfl,?_⟩
   have n0_:=Aside0.mk (zao (g:=gb427) (o:=.cells #[.bool a0_0,.string a0_1,.string a0_2] 66 (0,0)) (by (with_reducible repeat (first|refine zaf ?_ _|refine zai ?_|refine zag ?_ _)); exact BK427.out) hb)
   have n1_:=Aside0.mk (zak (by repeat (first|(with_reducible first|exact HB.out|apply zab|apply zaa|apply zac|refine zae ?_ GE427.out)|exact HB.out)) hb)
   clear BK427
   clear HB
   have BK427:=n0_
   have HB:=n1_
   clear n0_ n1_
   refine hK.out _ _ ⟨(zad BK427.out 0).trans rfl,(zad BK427.out 1).trans rfl,(zad BK427.out 2).trans rfl⟩ (fun hHeld => ?_)
   clear hK K
   refine norm_ (a':=?_) ?_ ?_
   rotate_left
   ·show Act.put _ (some 24) _=_
    simp only [Act.put,List.setIfInBounds_toArray,List.set_cons_zero,List.set_cons_succ,i64_w,i32_w]
    rfl
   refine one_ (i:=9) (N:=some 25) #[true,true,true,true,true,true,true,true,true,true,false] rfl rfl (zcf HT_.out (by kernel_rfl)) (by decide) (fun K hK => ?_)
   refine goes_ Tryz.func177 (by kernel_rfl) rfl #[.string a0_1,.string t432] (by rfl) rfl rfl (by (try simp only [List.map_toArray,List.map_cons,List.map_nil]); first|done|rfl|(simp only [List.length_drop,List.length_take]; rfl)) ?_
   with_reducible refine (c2_Near.calls a0_1 t432 t433 _ A16.out).mono ?_
   rintro e w21 ⟨rfl,hb⟩
   refine ⟨_,rfl,?_⟩
   have n0_:=Aside0.mk (zao (g:=gb427) (o:=.cells #[.bool a0_0,.string a0_1,.string a0_2] 66 (0,0)) (by (with_reducible repeat (first|refine zaf ?_ _|refine zai ?_|refine zag ?_ _)); exact BK427.out) hb)
   have n1_:=Aside0.mk (zak (by repeat (first|(with_reducible first|exact HB.out|apply zab|apply zaa|apply zac|refine zae ?_ GE427.out)|exact HB.out)) hb)
   clear BK427
   clear HB
   have BK427:=n0_
   have HB:=n1_
   clear n0_ n1_
   refine hK.out _ _ ⟨(zad BK427.out 0).trans rfl,(zad BK427.out 1).trans rfl,(zad BK427.out 2).trans rfl⟩ (fun hHeld => ?_)
   clear hK K
   refine norm_ (a':=?_) ?_ ?_
   rotate_left
   ·show Act.put _ (some 25) _=_
    simp only [Act.put,List.setIfInBounds_toArray,List.set_cons_zero,List.set_cons_succ,i64_w,i32_w]
    rfl
   refine pure_ (i:=10) (N:=some 4) (v:=?_) (a':=?_) #[true,true,true,true,true,true,true,true,true,true,true] rfl rfl (za1 HT_.out (by kernel_rfl)) (fun _ _ _ h=>h) (Or.inl ⟨by rfl,?_⟩) ?_ ?_
   rotate_left
   ·intro w'
    go_simp
    with_reducible rfl
   rotate_left
   ·simp only [Act.put,List.setIfInBounds_toArray,List.set_cons_zero,List.set_cons_succ,i64_w,i32_w]
    rfl
   refine done_ (done_of HT_.out (by kernel_rfl)) ?_
   try go_wp2
   go_ret
   exact ⟨by first|rfl|(simp [zan,zam]<;>rfl)|(simp [*,zan,zam]<;>rfl),by repeat (first|(with_reducible first|exact HB.out|apply zab|apply zaa|apply zac|refine zae ?_ GE427.out)|exact HB.out)⟩
  ·rw [if_neg c14] at H
   exact absurd H (by simp)
end Go.Proofs.ZQ
end
