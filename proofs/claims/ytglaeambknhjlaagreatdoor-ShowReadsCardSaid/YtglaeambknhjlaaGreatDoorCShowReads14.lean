/- Texts under the proof, joined by a program (prune.py): Q141, QPure3, HAll, HTwo, QRatB, QPlus, Q196, Q212, Q240, QFr4, QRatC, QRatD, QComp, Q214, Q218, Q219, Q215, QPure5, Q112, QFAdd. -/
import Derived.Test.YtglaeambknhjlaaGreatDoorCShowReads13
import Derived.Test.YtglaeambknhjlaaGreatDoorCShowReads09
import Derived.Laws.CopyOwn
import Derived.Test.YtglaeambknhjlaaGreatDoorCShowReads04
import Derived.WalkSpells
import Derived.StillTailTactics
import Derived.Shelf.Abstract
import Derived.Test.YtglaeambknhjlaaGreatDoorCShowReads07
import Derived.Test.YtglaeambknhjlaaGreatDoorCShowReads11
set_option linter.unusedVariables false
set_option linter.unusedSimpArgs false
set_option exponentiation.threshold 20001
set_option maxHeartbeats 8000000
set_option maxRecDepth 100000
section
namespace Go.Proofs.ZQ
open Go.RowKit Go.Proofs.ZW.Wa Go.Proofs.ZW.Wb Go.Proofs.ZW.Wc
attribute [local go_sem] zaC zaB zaM zaL zaz zay zaF zaE
mutual
noncomputable def c2_Digits.j0:Nat→Int→Bool→ByteArray→ByteArray→Option (ByteArray×Int)
 | 0,_,_,_,_=>none
 | k+1,x1,x17,x435000,x435001=>if x17=true then (some ((⟨#[]⟩:ByteArray),1)) else ((c2_Read.f k x435000 x435001).bind fun bt436=>((c2_Steps.f bt436.1 bt436.2.1 bt436.2.2 x1).bind fun t440=>(if (t440.size:Int)>600 then (some ((⟨#[]⟩:ByteArray),7)) else (if bt436.1=true then (c2_Digits.j1 k x1 t440 (⟨#[]⟩:ByteArray) (t440.toList != ([48]:List UInt8))) else (c2_Digits.j1 k x1 t440 (⟨#[]⟩:ByteArray) false)))))
noncomputable def c2_Digits.j1:Nat→Int→ByteArray→ByteArray→Bool→Option (ByteArray×Int)
 | 0,_,_,_,_=>none
 | k+1,x1,x7,x8,x31=>if x31=true then (c2_Digits.j2 k x1 x7 (⟨#[45]⟩:ByteArray)) else (c2_Digits.j2 k x1 x7 x8)
noncomputable def c2_Digits.j2:Nat→Int→ByteArray→ByteArray→Option (ByteArray×Int)
 | 0,_,_,_=>none
 | k+1,x1,x7,x8=>if (x7.size:Int)≤x1 then ((c2_Zeros.f (wrap64 ((wrap64 (x1+1))-(x7.size:Int)))).bind fun t441=>(if t441.size+x7.size≤9223372036854775807 then (if x1=0 then (if x8.size+(t441++x7).size≤9223372036854775807 then (some (x8++(t441++x7),0)) else (none)) else (if 0≤(wrap64 (((t441++x7).size:Int)-x1)) then (if (wrap64 (((t441++x7).size:Int)-x1))≤((t441++x7).size:Int) then (if x8.size+((t441++x7).extract 0 ((wrap64 (((t441++x7).size:Int)-x1)):Int).toNat).size≤9223372036854775807 then (if (x8++((t441++x7).extract 0 ((wrap64 (((t441++x7).size:Int)-x1)):Int).toNat)).size+1≤9223372036854775807 then (if ((x8++((t441++x7).extract 0 ((wrap64 (((t441++x7).size:Int)-x1)):Int).toNat))++(⟨#[46]⟩:ByteArray)).size+((t441++x7).extract ((wrap64 (((t441++x7).size:Int)-x1)):Int).toNat (t441++x7).size).size≤9223372036854775807 then (some (((x8++((t441++x7).extract 0 ((wrap64 (((t441++x7).size:Int)-x1)):Int).toNat))++(⟨#[46]⟩:ByteArray))++((t441++x7).extract ((wrap64 (((t441++x7).size:Int)-x1)):Int).toNat (t441++x7).size),0)) else (none)) else (none)) else (none)) else (none)) else (none))) else (none))) else (if x1=0 then (if x8.size+x7.size≤9223372036854775807 then (some (x8++x7,0)) else (none)) else (if 0≤(wrap64 ((x7.size:Int)-x1)) then (if (wrap64 ((x7.size:Int)-x1))≤(x7.size:Int) then (if x8.size+(x7.extract 0 ((wrap64 ((x7.size:Int)-x1)):Int).toNat).size≤9223372036854775807 then (if (x8++(x7.extract 0 ((wrap64 ((x7.size:Int)-x1)):Int).toNat)).size+1≤9223372036854775807 then (if ((x8++(x7.extract 0 ((wrap64 ((x7.size:Int)-x1)):Int).toNat))++(⟨#[46]⟩:ByteArray)).size+(x7.extract ((wrap64 ((x7.size:Int)-x1)):Int).toNat x7.size).size≤9223372036854775807 then (some (((x8++(x7.extract 0 ((wrap64 ((x7.size:Int)-x1)):Int).toNat))++(⟨#[46]⟩:ByteArray))++(x7.extract ((wrap64 ((x7.size:Int)-x1)):Int).toNat x7.size),0)) else (none)) else (none)) else (none)) else (none)) else (none)))
end
noncomputable def c2_Digits.f (k:Nat) (a0_0:ByteArray) (a0_1:ByteArray) (a1:Int):Option (ByteArray×Int):=(c2_Right.f k a0_0 a0_1).bind fun t435=>(if t435=true then (if a1<0 then (c2_Digits.j0 k a1 true a0_0 a0_1) else (c2_Digits.j0 k a1 (decide (a1>600)) a0_0 a0_1)) else (some ((⟨#[]⟩:ByteArray),3)))
end Go.Proofs.ZQ
end
section
namespace Go.Proofs.ZQ
open Go.RowKit Go.Proofs.ZW.Wa Go.Proofs.ZP
theorem dval_zeros (k:Nat):dval (List.replicate k (48:UInt8))=0:=by
  induction k with
  | zero=>rfl
  | succ k ih=>rw [List.replicate_succ,zbY,ih]; simp
theorem T_ten (p:Nat):(⟨#[49]⟩:ByteArray)++ZP.zer p=T (10^p):=by
  have hd:((⟨#[49]⟩:ByteArray)++ZP.zer p).data.toList=49 :: List.replicate p (48:UInt8):=by
    rw [ByteArray.data_append,Array.toList_append]; simp [ZP.zer]
  refine (can_T ?_).trans (congrArg T ?_)
  · rw [hd]
    refine ⟨by simp,?_,fun e=>by simp at e⟩
    intro c hc
    rcases List.mem_cons.1 hc with rfl|hc
    · decide
    · rw [(List.mem_replicate.1 hc).2]; decide
  · rw [hd,zbY,dval_zeros,List.length_replicate]
    show (49-48)*10^p+0=_
    omega
theorem zer_sz (k:Nat):(ZP.zer k).size=k:=by show (List.replicate k (48:UInt8)).toArray.size=k; simp
theorem zcZ (p:Nat):(T (10^p)).size=p+1:=by
  rw [←T_ten,ByteArray.size_append,zer_sz]; show 1+p=_; omega
theorem T_last (n : Nat) : 0 < (T n).size ∧ bt (T n) (((T n).size : Int) - 1) = (48 + n % 10 : Nat) := by
  have hp:=zaN n
  refine ⟨hp,?_⟩
  have hl:(T n).size-1<(T n).data.toList.length:=by rw [zak]; omega
  have e:((T n).size:Int)-1=(((T n).size-1:Nat):Int):=by omega
  rw [e,bt_nth _ hl]
  congr 1
  have hg:∀ (l:List UInt8) (h:l.length-1<l.length),l[l.length-1]=l.getLast (fun e=>by rw [e] at h; cases h):=fun l h=>(List.getLast_eq_getElem _).symm
  have h2:(T n).data.toList.length-1<(T n).data.toList.length:=by rw [zak]; omega
  have e2:(T n).data.toList[(T n).size-1]=(T n).data.toList[(T n).data.toList.length-1]:=by
    congr 1
  rw [e2,hg _ h2]
  have hd:(T n).data.toList=decl n:=T_data n
  have h3:∀ (l:List UInt8) (h:l ≠ []),l=decl n→(l.getLast h).toNat=48+n%10:=by
    rintro l h rfl
    by_cases h0:n=0
    · subst h0; rfl
    · have e3:decl n=(rdig (n/10)).reverse ++ [UInt8.ofNat (48+n%10)]:=by
        unfold decl
        rw [if_neg h0,zbR (by omega),List.reverse_cons]
      have:(decl n).getLast h=UInt8.ofNat (48+n%10):=by
        exact (fun (l l':List UInt8) (c:UInt8) (h:l ≠ []) (e:l=l' ++ [c])=>(by subst e; simp:l.getLast h=c)) _ _ _ h e3
      rw [this,za1 _ (Nat.mod_lt _ (by decide))]
  exact h3 _ _ hd
theorem T_odd (n:Nat):((((bt (T n) (((T n).size:Int)-1))-48)%256)%2=1)↔n%2=1:=by
  rw [(T_last n).2]
  omega
theorem T_2:(⟨#[50]⟩:ByteArray)=T 2:=by unfold T; rw [zbo (by decide)]; rfl
theorem Near_T {a b:Nat} (ha:(T a).size≤137438950000) (hb:(T b).size≤137438950000) (h:0<b):c2_Near.f (T a) (T b)=some (T (near a b)):=by
  have hr:(T (a%b)).size≤137438950000:=Nat.le_trans (zbl (Nat.mod_le a b)) ha
  have hq:(T (a/b)).size≤137438950000:=Nat.le_trans (zbl (Nat.div_le_self a b)) ha
  have h2:(T 2).size≤137438950000:=by rw [←T_2]; decide
  have hr2:(T (a%b*2)).size≤137438952472:=by
    have:=zbc (a%b) 2
    have e:(T 2).size=1:=by rw [←T_2]; rfl
    omega
  have h1:(T 1).size≤137438952472:=by rw [←T_1]; decide
  have hp:=T_last (a/b)
  have ho:=T_odd (a/b)
  unfold c2_Near.f
  rw [Divide_T (by omega) (by omega) h,Option.bind_some]
  simp only [T_2,T_1]
  rw [zde (by omega) (by omega),Option.bind_some,Compare_T (by omega) (by omega),Option.bind_some,Plus_T (by omega) (by omega),Option.bind_some]
  have hw:wrap64 (((T (a/b)).size:Int)-1)=((T (a/b)).size:Int)-1:=by unfold wrap64; omega
  rw [hw]
  unfold near
  rcases Nat.lt_trichotomy (a%b*2) b with hlt|hE|hgt
  · have hc:cmpN (a%b*2) b = -1:=if_pos hlt
    rw [hc,if_neg (by decide),if_neg (by decide),if_neg (by omega)]
  · have hc:cmpN (a%b*2) b=0:=(if_neg (by omega)).trans (if_neg (by omega))
    rw [hc,if_neg (by decide),if_pos rfl,if_pos (by omega),if_pos (by omega)]
    by_cases h5:a/b%2=1
    · rw [if_pos (ho.2 h5),if_pos (by omega)]
    · rw [if_neg (fun e=>h5 (ho.1 e)),if_neg (by omega)]
  · have hc:cmpN (a%b*2) b=1:=(if_neg (by omega)).trans (if_pos hgt)
    rw [hc,if_pos (by decide),if_pos (by omega)]
theorem even_places (x : Rat) (p : Nat) : evenR (x * tenR (p : Int)) = sgn (decide (x.num < 0)) (near (x.num.natAbs * 10 ^ p) x.den) := by
  have hden:=x.den_pos
  have e1:x*tenR (p:Int)=Rat.divInt (sgn (decide (x.num<0)) (x.num.natAbs*10^p)) x.den:=by
    have ht:tenR (p:Int)=(((10:Int)^p:Int):Rat):=by unfold tenR; rw [if_neg (by omega),Int.natAbs_natCast]
    have hi:((((10:Int)^p:Int)):Rat).num=(10:Int)^p:=rfl
    have hj:((((10:Int)^p:Int)):Rat).den=1:=rfl
    rw [ht,zcU,hi,hj,Int.natCast_one,Int.mul_one,←zc5,zcF,Int.natCast_pow]; rfl
  obtain ⟨f1,f2,f3⟩:=zcJ (decide (x.num<0)) (x.num.natAbs*10^p) x.den hden
  rw [even_near,e1]
  have hn : near (Rat.divInt (sgn (decide (x.num < 0)) (x.num.natAbs * 10 ^ p)) x.den).num.natAbs (Rat.divInt (sgn (decide (x.num < 0)) (x.num.natAbs * 10 ^ p)) x.den).den = near (x.num.natAbs * 10 ^ p) x.den := by
    refine near_div _ _ _ hden ?_
    rw [f1,f2]
    generalize x.num.natAbs*10^p=A
    obtain ⟨u,hu⟩:=Nat.gcd_dvd_left A x.den
    obtain ⟨v,hv⟩:=Nat.gcd_dvd_right A x.den
    have hg:0<Nat.gcd A x.den:=Nat.gcd_pos_of_pos_right _ hden
    have hu' : A / Nat.gcd A x.den = u := by conv => lhs; lhs; rw [hu]
                                             exact Nat.mul_div_cancel_left _ hg
    have hv' : x.den / Nat.gcd A x.den = v := by conv => lhs; lhs; rw [hv]
                                                 exact Nat.mul_div_cancel_left _ hg
    rw [hu',hv']
    conv=>lhs; rw [hv]
    conv=>rhs; rw [hu]
    rw [←Nat.mul_assoc,Nat.mul_comm u,Nat.mul_assoc]
  rw [hn,f3]
  by_cases h0:x.num.natAbs*10^p=0
  · rw [h0]
    have:near 0 x.den=0:=by
      unfold near
      rw [Nat.zero_mod,Nat.zero_div]
      exact if_neg (by omega)
    rw [this]
    cases decide (x.num<0)<;>rfl
  · rw [decide_eq_true h0,Bool.and_true]
theorem Steps_T (s:Bool) (a b p:Nat) (hb:0<b) (ha:(T a).size≤100000) (hbs:(T b).size≤100000) (hp:p≤100000):c2_Steps.f s (T a) (T b) (p:Int)=some (T (near (a*10^p) b)):=by
  unfold c2_Steps.f
  have ht:=zcZ p
  have hm:(T (a*10^p)).size≤200001:=by have:=zbc a (10^p); omega
  rw [if_pos (by omega),Zeros_n p (by omega),Option.bind_some,if_pos (by rw [zcO]; omega),show (⟨#[49]⟩:ByteArray)++zer p=T (10^p) from T_ten p,zde (by omega) (by omega),Option.bind_some,Near_T (by omega) (by omega) hb,Option.bind_some]
theorem read_ev (a b:ByteArray) (x:Rat) (h:RR a b x):Ev (fun k=>c2_Read.f k a b) (Fr x):=by
  have hs:spl a=(decide (x.num<0),T x.num.natAbs):=by
    rw [h.num]
    conv=>lhs; rw [←zcF x.num]
    exact spl_wtext _ _ (fun e=>by have:=of_decide_eq_true e; omega)
  have hne:¬ a.toList=([]:List UInt8):=by
    intro e
    have h1:=spl_empty e
    rw [hs] at h1
    have h2:=congrArg Prod.snd h1
    have h3:=congrArg ByteArray.size h2
    have h4:=zaN x.num.natAbs
    have h5:a.size=0:=by rw [←zak,←ba_toList,e]; rfl
    have h6:(T x.num.natAbs).size=a.size:=h3
    omega
  have hp:=size_pos_of hne
  have hb:(b.toList == ([]:List UInt8))=false:=by
    refine beq_eq_false_iff_ne.2 (fun e => ?_)
    have h4:=zaN x.den
    rw [←h.den,←zak,←ba_toList,e] at h4
    cases h4
  unfold c2_Read.f
  rw [hb]
  refine Ev.congr (fun k=>if_neg hne) ?_
  refine Ev.step (f:=fun k=>some (Fr x)) (fun k => ?_) (Ev.now _)
  show c2_Read.j0 (k+1) false a b=_
  simp only [c2_Read.j0]
  have hbt:=bt0 hp
  rw [if_neg (by decide),if_pos (by omega)]
  have hF:Fr x=((spl a).1,(spl a).2,b):=by unfold Fr; rw [hs,h.den]
  rw [hF]
  cases hh:(spl a).1
  · rw [hh] at hbt
    rw [if_neg (beq_eq_false_iff_ne.1 hbt),spl_pos hh]
  · rw [hh] at hbt
    rw [if_pos (beq_iff_eq.1 hbt),if_pos (by omega),(spl_neg hh).2]
theorem tail_f (t sg:ByteArray) (p:Nat) (h1:p+1≤t.size) (h2:t.size≤100000) (h3:sg.size≤1):(if (p:Int)=0 then (if sg.size+t.size≤9223372036854775807 then (some (sg++t,(0:Int))) else (none)) else (if 0≤(wrap64 ((t.size:Int)-p)) then (if (wrap64 ((t.size:Int)-p))≤(t.size:Int) then (if sg.size+(t.extract 0 ((wrap64 ((t.size:Int)-p)):Int).toNat).size≤9223372036854775807 then (if (sg++(t.extract 0 ((wrap64 ((t.size:Int)-p)):Int).toNat)).size+1≤9223372036854775807 then (if ((sg++(t.extract 0 ((wrap64 ((t.size:Int)-p)):Int).toNat))++(⟨#[46]⟩:ByteArray)).size+(t.extract ((wrap64 ((t.size:Int)-p)):Int).toNat t.size).size≤9223372036854775807 then (some (((sg++(t.extract 0 ((wrap64 ((t.size:Int)-p)):Int).toNat))++(⟨#[46]⟩:ByteArray))++(t.extract ((wrap64 ((t.size:Int)-p)):Int).toNat t.size),0)) else (none)) else (none)) else (none)) else (none)) else (none)))=some (sg++ptT t p,0):=by
  have hw:wrap64 ((t.size:Int)-p)=(t.size:Int)-p:=by unfold wrap64; omega
  have hn:((t.size:Int)-p).toNat=t.size-p:=by omega
  have e0:(t.extract 0 (t.size-p)).size=min (t.size-p) t.size:=by rw [ByteArray.size_extract,Nat.sub_zero]
  have e1:(t.extract (t.size-p) t.size).size=t.size-(t.size-p):=by rw [ByteArray.size_extract,Nat.min_self]
  have e4:(⟨#[46]⟩:ByteArray).size=1:=rfl
  by_cases h0:p=0
  · subst h0
    have e:ptT t 0=t:=if_neg (by decide)
    rw [if_pos (show ((0:Nat):Int)=0 from rfl),if_pos (by omega),e]
  · rw [if_neg (by omega),hw,hn,if_pos (by omega),if_pos (by omega),if_pos (by omega),if_pos (by rw [ByteArray.size_append]; omega),if_pos (by rw [ByteArray.size_append,ByteArray.size_append]; omega)]
    unfold ptT
    rw [if_pos (by omega),ByteArray.append_assoc,ByteArray.append_assoc,ByteArray.append_assoc]
theorem j2_ev (p:Nat) (t sg:ByteArray) (hp:p≤600) (ht:t.size≤600) (ht0:0<t.size) (hs:sg.size≤1):Ev (fun k=>c2_Digits.j2 k (p:Int) t sg) (sg++ptT (padT t p) p,0):=by
  refine Ev.step (f:=fun k=>some (sg++ptT (padT t p) p,0)) (fun k => ?_) (Ev.now _)
  simp only [c2_Digits.j2]
  by_cases h:(t.size:Int)≤p
  · have hz:wrap64 ((wrap64 ((p:Int)+1))-(t.size:Int))=((p+1-t.size:Nat):Int):=by unfold wrap64; omega
    have hpad:padT t p=zer (p+1-t.size)++t:=if_pos (by omega)
    have hsz:(zer (p+1-t.size)).size=p+1-t.size:=zcO _
    rw [if_pos h,hz,Zeros_n _ (by omega),Option.bind_some,if_pos (by omega),hpad]
    exact tail_f _ sg p (by rw [ByteArray.size_append]; omega) (by rw [ByteArray.size_append]; omega) hs
  · have hpad:padT t p=t:=if_neg (by omega)
    rw [if_neg h,hpad]
    exact tail_f t sg p (by omega) (by omega) hs
theorem digits_ev (a b : ByteArray) (p : Int) (hp0 : -9223372036854775808 ≤ p) (hp1 : p < 9223372036854775808) : ∃ r, rat_Digits.f a b p = some r ∧ Ev (fun k => c2_Digits.f k a b p) r := by
  by_cases he:∃ x,RR a b x
  · have hx := he.choose_spec
    have hc:=(core_iff a b).2 he
    have hr:=right_ev a b
    rw [hc] at hr
    refine ⟨digR he.choose p,?_,?_⟩
    · unfold rat_Digits.f; rw [dif_pos he]
    unfold c2_Digits.f
    generalize he.choose=x at hx
    refine Ev.bind hr ?_
    refine Ev.congr (fun k=>if_pos rfl) ?_
    by_cases hb:p<0∨600<p
    · have hd:digR x p=(⟨#[]⟩,1):=if_pos hb
      rw [hd]
      have hj:Ev (fun k=>c2_Digits.j0 k p true a b) ((⟨#[]⟩:ByteArray),(1:Int)):=by
        refine Ev.step (f:=fun _=>some (⟨#[]⟩,1)) (fun k => ?_) (Ev.now _)
        simp only [c2_Digits.j0]
        rw [if_pos trivial]
      by_cases hn:p<0
      · exact Ev.congr (fun k=>if_pos hn) hj
      · have:decide (p>600)=true:=decide_eq_true (by omega)
        rw [this]
        exact Ev.congr (fun k=>if_neg hn) hj
    · obtain ⟨q,rfl⟩:∃ q:Nat,p=q:=⟨p.toNat,by omega⟩
      have hq:q≤600:=by omega
      have hf:decide ((q:Int)>600)=false:=decide_eq_false (by omega)
      rw [hf]
      refine Ev.congr (fun k=>if_neg (by omega)) ?_
      have sn:=(zas (k:=600) (by decide)).2 hx.ln
      have sd:=(zas (k:=600) (by decide)).2 hx.ld
      have hE:=even_places x q
      have hst:=Steps_T (Fr x).1 x.num.natAbs x.den q x.den_pos (by omega) (by omega) (by omega)
      have hab:(evenR (x*tenR (q:Int))).natAbs=near (x.num.natAbs*10^q) x.den:=by rw [hE,zc6]
      have hdg:digR x (q:Int)=if 600<(T (near (x.num.natAbs*10^q) x.den)).size then (⟨#[]⟩,7) else (dgt (evenR (x*tenR (q:Int))) q,0):=by
        unfold digR
        rw [if_neg hb,hab,Int.toNat_natCast]
      rw [hdg]
      generalize near (x.num.natAbs*10^q) x.den=M at hst hE hab
      refine Ev.step (f:=fun k=>(c2_Read.f k a b).bind fun bt436=>((c2_Steps.f bt436.1 bt436.2.1 bt436.2.2 (q:Int)).bind fun t440=>(if (t440.size:Int)>600 then (some ((⟨#[]⟩:ByteArray),7)) else (if bt436.1=true then (c2_Digits.j1 k (q:Int) t440 (⟨#[]⟩:ByteArray) (t440.toList != ([48]:List UInt8))) else (c2_Digits.j1 k (q:Int) t440 (⟨#[]⟩:ByteArray) false))))) (fun k => ?_) ?_
      · simp only [c2_Digits.j0]
        rw [if_neg (by decide)]
      refine Ev.bind (read_ev a b x hx) ?_
      refine Ev.congr (f:=fun k=>(if ((T M).size:Int)>600 then (some ((⟨#[]⟩:ByteArray),7)) else (if (Fr x).1=true then (c2_Digits.j1 k (q:Int) (T M) (⟨#[]⟩:ByteArray) ((T M).toList != ([48]:List UInt8))) else (c2_Digits.j1 k (q:Int) (T M) (⟨#[]⟩:ByteArray) false)))) (fun k => ?_) ?_
      · have:c2_Steps.f (Fr x).1 (Fr x).2.1 (Fr x).2.2 (q:Int)=some (T M):=hst
        rw [this,Option.bind_some]
      by_cases hM:600<(T M).size
      · rw [if_pos hM]
        exact Ev.congr (fun k=>if_pos (by omega)) (Ev.now _)
      · rw [if_neg hM]
        refine Ev.congr (fun k=>if_neg (by omega)) ?_
        have hMp:=zaN M
        have hj1f:Ev (fun k=>c2_Digits.j1 k (q:Int) (T M) (⟨#[]⟩:ByteArray) false) (ptT (padT (T M) q) q,0):=by
          refine Ev.step (f:=fun k=>c2_Digits.j2 k (q:Int) (T M) (⟨#[]⟩:ByteArray)) (fun k => ?_) ?_
          · simp only [c2_Digits.j1]
            rw [if_neg (by decide)]
          · have h:=j2_ev q (T M) ⟨#[]⟩ hq (by omega) hMp (by decide)
            have e:(⟨#[]⟩:ByteArray)++ptT (padT (T M) q) q=ptT (padT (T M) q) q:=ByteArray.empty_append
            rw [e] at h
            exact h
        have hj1t:Ev (fun k=>c2_Digits.j1 k (q:Int) (T M) (⟨#[]⟩:ByteArray) true) ((⟨#[45]⟩:ByteArray)++ptT (padT (T M) q) q,0):=by
          refine Ev.step (f:=fun k=>c2_Digits.j2 k (q:Int) (T M) (⟨#[45]⟩:ByteArray)) (fun k => ?_) ?_
          · simp only [c2_Digits.j1]
            rw [if_pos trivial]
          · exact j2_ev q (T M) ⟨#[45]⟩ hq (by omega) hMp (by decide)
        have hs1:(Fr x).1=decide (x.num<0):=rfl
        unfold dgt
        rw [hab]
        by_cases hn:x.num<0
        · rw [decide_eq_true hn] at hE hs1
          refine Ev.congr (fun k=>if_pos hs1) ?_
          by_cases hm0:M=0
          · subst hm0
            have hb0:((T 0).toList != ([48]:List UInt8))=false:=by rw [b48.2 rfl]; rfl
            rw [hb0,if_neg (by rw [hE]; decide)]
            exact hj1f
          · have hb1:((T M).toList != ([48]:List UInt8))=true:=bne_iff_ne.2 (fun e=>hm0 (T_inj (b48.1 e)))
            rw [hb1,if_pos (by rw [hE]; simp [sgn]; omega)]
            exact hj1t
        · rw [decide_eq_false hn] at hE hs1
          refine Ev.congr (fun k=>if_neg (by rw [hs1]; decide)) ?_
          rw [if_neg (by rw [hE]; simp [sgn])]
          exact hj1f
  · have hc:coreB (spl a).1 (spl a).2 b=false:=by
      cases hcc:coreB (spl a).1 (spl a).2 b
      · rfl
      · exact absurd ((core_iff a b).1 hcc) he
    have hr:=right_ev a b
    rw [hc] at hr
    refine ⟨(⟨#[]⟩,3),?_,?_⟩
    · unfold rat_Digits.f; rw [dif_neg he]
    · unfold c2_Digits.f
      refine Ev.bind hr ?_
      exact Ev.congr (fun k=>if_neg (by decide)) (Ev.now _)
end Go.Proofs.ZQ
end
section
namespace Go.Proofs.ZP
open Go.RowKit Go.Proofs.ZW.Wa
def RowR (w:World) (A:Option Addr) (ps:List (ByteArray×ByteArray)):Prop:=
 ∀ j (h:j<ps.length),∃ b o,A=some ⟨b,o,none⟩∧b<w.heap.size∧w.cell? ⟨b,o+j*2,none⟩=some (.string ps[j].1)∧w.cell? ⟨b,o+j*2+1,none⟩=some (.string ps[j].2)
theorem RowR.below {w w':World} {A:Option Addr} {ps:List (ByteArray×ByteArray)} (h:RowR w A ps) (hb:Below w.heap.size w w'):RowR w' A ps:=fun j hj=>by
 obtain ⟨b,o,e,hl,h1,h2⟩:=h j hj
 have hs:=hb.size
 exact ⟨b,o,e,by omega,(hb.cell (p:=⟨b,o+j*2,none⟩) hl).trans h1,(hb.cell (p:=⟨b,o+j*2+1,none⟩) hl).trans h2⟩
def ptrs (n:Nat) (ds:List Nat):List Value:=ds.map (fun d=>Value.pointer (some ⟨d,0,none⟩))++List.replicate (n-ds.length) (.pointer none)
theorem ptrs_length {n:Nat} {ds:List Nat} (h:ds.length≤n):(ptrs n ds).length=n:=by unfold ptrs; simp; omega
theorem ptrs_snoc {n:Nat} {ds:List Nat} (h:ds.length<n) (d:Nat):(ptrs n ds).take ds.length++([Value.pointer (some ⟨d,0,none⟩)]++(ptrs n ds).drop (ds.length+1))=ptrs n (ds ++ [d]):=by
 have hl:(ds.map (fun d=>Value.pointer (some ⟨d,0,none⟩))).length=ds.length:=by simp
 unfold ptrs
 rw [List.take_left' hl,List.drop_append,hl,show ds.length+1-ds.length=1 by omega,List.drop_of_length_le (by rw [hl]; omega),List.nil_append,List.drop_replicate]
 simp only [List.map_append,List.map_cons,List.map_nil,List.length_append,List.length_singleton,List.append_assoc]
 congr 3
theorem upd_setRow {w:World} {g:Nat} {cur new:Array Value} {t:TypeId} (hg:w.heap[g]? = some (.cells cur t (0,0))) (ht:t≠171) (hs:new.size=cur.size):Upd w (w.setRow g new) g 0 cur.size where
 os:=rfl
 tape:=rfl
 output:=rfl
 size:=by simp [World.setRow]
 other:=fun k _ hne=>setRow_other w g k new hne
 word:=fun k cs' hk=>setRow_other w g k new (by
  rintro rfl
  rw [hg] at hk
  injection hk with hk
  injection hk with _ hk
  exact ht hk)
 same:=fun cs' t' hk=>by
  rw [hg] at hk
  injection hk with hk
  injection hk with e1 e2
  subst e1; subst e2
  exact ⟨new,setRow_heap w g cur new t (0,0) hg,hs,fun i hi=>by
   rcases hi with hi|hi
   ·omega
   ·rw [Array.getElem?_eq_none (by omega),Array.getElem?_eq_none (by omega)]⟩
structure ASt (w wr:World) (g n:Nat) (X:Nat→Rat) (ds:List Nat):Prop where
 le:ds.length≤n
 blk:wr.heap[g]? = some (.cells (ptrs n ds).toArray 82 (0,0))
 at_:∀ j (h:j<ds.length),w.heap.size≤ds[j]∧g≠ds[j]∧RatAt wr ds[j] (X j)
 below:Below w.heap.size w wr
 ge:w.heap.size≤g
theorem ASt.below' {w wr w':World} {g n:Nat} {X:Nat→Rat} {ds:List Nat} (h:ASt w wr g n X ds) (hb:Below wr.heap.size wr w'):ASt w w' g n X ds where
 le:=h.le
 blk:=(hb.block _ (zaq h.blk)).trans h.blk
 at_:=fun j hj=>by
  obtain ⟨h1,h2,h3⟩:=h.at_ j hj
  exact ⟨h1,h2,h3.below hb⟩
 below:=bthen h.below hb
 ge:=h.ge
theorem ASt.more {w wr:World} {g n:Nat} {X:Nat→Rat} {ds:List Nat} (h:ASt w wr g n X ds) (hl:ds.length<n) (d:Nat) (hd:w.heap.size≤d) (hne:g≠d) (hx:RatAt wr d (X ds.length)) :
  Hid (ASt w (wr.setRow g ((ptrs n ds).take ds.length++([Value.pointer (some ⟨d,0,none⟩)]++(ptrs n ds).drop (ds.length+1))).toArray) g n X (ds ++ [d])):=by
 rw [ptrs_snoc hl]
 have hu:=upd_setRow (new:=(ptrs n (ds ++ [d])).toArray) h.blk (by decide) (by
  simp only [List.size_toArray]
  rw [ptrs_length (by simp; omega),ptrs_length h.le])
 exact {
  le:=by simp; omega
  blk:=setRow_heap _ _ _ _ _ _ h.blk
  at_:=fun j hj=>by
   rw [List.length_append,List.length_singleton] at hj
   by_cases e:j<ds.length
   ·obtain ⟨h1,h2,h3⟩:=h.at_ j e
    rw [List.getElem_append_left e]
    exact ⟨h1,h2,h3.upd hu (fun e=>h2 e.symm)⟩
   ·have:j=ds.length:=by omega
    subst this
    rw [List.getElem_append_right (Nat.le_refl _)]
    simp only [Nat.sub_self,List.getElem_cons_zero]
    exact ⟨hd,hne,hx.upd hu (fun e=>hne e.symm)⟩
  below:=below_setRow h.below h.ge _
  ge:=h.ge }
theorem Upd.keepB {w w':World} {b lo hi:Nat} (h:Upd w w' b lo hi):KeepB w w' b:=⟨h.os,h.tape,h.output,h.size,h.other⟩
noncomputable def tell (why:Int) (r:Rat):ByteArray×ByteArray×Int:=if why=0 then toldR r else (⟨#[]⟩,⟨#[]⟩,why)
end Go.Proofs.ZP
end
section
namespace Go.Proofs.ZQ
open Go.RowKit Go.Proofs.ZW.Wa Go.Proofs.ZP
noncomputable def twoF (why:Rat→Rat→Int) (op:Rat→Rat→Rat) (a0 a1 b0 b1:ByteArray):Option (ByteArray×ByteArray×Int):=by
 classical exact if h:(∃ x,RR a0 a1 x)∧∃ y,RR b0 b1 y then some (tell (why h.1.choose h.2.choose) (op h.1.choose h.2.choose)) else some (⟨#[]⟩,⟨#[]⟩,3)
noncomputable def oneF (why:Rat→Int) (op:Rat→Rat) (a0 a1:ByteArray):Option (ByteArray×ByteArray×Int):=by
 classical exact if h:∃ x,RR a0 a1 x then some (tell (why h.choose) (op h.choose)) else some (⟨#[]⟩,⟨#[]⟩,3)
noncomputable def rat_Add.f (a0_0 a0_1 a1_0 a1_1:ByteArray):Option (ByteArray×ByteArray×Int):=twoF (fun x y=>0) (fun x y=>x+y) a0_0 a0_1 a1_0 a1_1
noncomputable def rat_Sub.f (a0_0 a0_1 a1_0 a1_1:ByteArray):Option (ByteArray×ByteArray×Int):=twoF (fun x y=>0) (fun x y=>x-y) a0_0 a0_1 a1_0 a1_1
noncomputable def rat_Mul.f (a0_0 a0_1 a1_0 a1_1:ByteArray):Option (ByteArray×ByteArray×Int):=twoF (fun x y=>0) (fun x y=>x*y) a0_0 a0_1 a1_0 a1_1
noncomputable def rat_Neg.f (a0_0 a0_1:ByteArray):Option (ByteArray×ByteArray×Int):=oneF (fun x=>0) (fun x => -x) a0_0 a0_1
noncomputable def rat_Quo.f (a0_0 a0_1 a1_0 a1_1:ByteArray):Option (ByteArray×ByteArray×Int):=twoF (fun x y=>if y=0 then 8 else 0) (fun x y=>x/y) a0_0 a0_1 a1_0 a1_1
noncomputable def rat_Inv.f (a0_0 a0_1:ByteArray):Option (ByteArray×ByteArray×Int):=oneF (fun x=>if x=0 then 8 else 0) (fun x=>x⁻¹) a0_0 a0_1
end Go.Proofs.ZQ
end
section
namespace Go.Proofs.ZQ
open Go.RowKit Go.Proofs.ZW.Wa Go.Proofs.ZP Go.Proofs.ZW.Wb Go.Proofs.ZW.Wc
def FrAt (w:World) (b:Nat) (s:Bool) (x y:ByteArray):Prop:=w.heap[b]? = some (.cells #[.bool s,.string x,.string y] 66 (0,0))
theorem FrAt.c0 {w:World} {b:Nat} {s:Bool} {x y:ByteArray} (h:FrAt w b s x y):w.cell? ⟨b,0,none⟩=some (.bool s):=(zag h 0).trans rfl
theorem FrAt.c1 {w:World} {b:Nat} {s:Bool} {x y:ByteArray} (h:FrAt w b s x y):w.cell? ⟨b,1,none⟩=some (.string x):=(zag h 1).trans rfl
theorem FrAt.c2 {w:World} {b:Nat} {s:Bool} {x y:ByteArray} (h:FrAt w b s x y):w.cell? ⟨b,2,none⟩=some (.string y):=(zag h 2).trans rfl
theorem FrAt.below {w w':World} {b:Nat} {s:Bool} {x y:ByteArray} (h:FrAt w b s x y) (hb:Below w.heap.size w w'):FrAt w' b s x y:=(hb.block _ (zaq h)).trans h
theorem FrAt.keep {w w':World} {b n:Nat} {s:Bool} {x y:ByteArray} (h:FrAt w b s x y) (hb:Below n w w') (hn:b<n):FrAt w' b s x y:=(hb.block _ hn).trans h
theorem FrAt.new (w:World) (s:Bool) (x y:ByteArray):FrAt (w.alloc (.cells #[.bool s,.string x,.string y] 66)) w.heap.size s x y:=zaO w _
theorem FrAt.alloc {w:World} {b:Nat} {s:Bool} {x y:ByteArray} (h:FrAt w b s x y) (o:Obj):FrAt (w.alloc o) b s x y:=h.below (zaa (Below.refl _ _) _)
noncomputable def c2_Plus.f (a0_0:Bool) (a0_1:ByteArray) (a0_2:ByteArray) (a1_0:Bool) (a1_1:ByteArray) (a1_2:ByteArray):Option (Bool×ByteArray×ByteArray):=(c1_Times.f a0_1 a1_2).bind fun t601=>((c1_Times.f a1_1 a0_2).bind fun t602=>((c1_Times.f a0_2 a1_2).bind fun t603=>(if (a0_0 == a1_0)=true then ((c1_Plus.f t601 t602).bind fun t604=>((c2_Lowest.f a0_0 t604 t603).bind fun bt605=>(some (bt605.1,bt605.2.1,bt605.2.2)))) else ((c1_Compare.f t601 t602).bind fun t608=>(if t608≥0 then ((c1_Minus.f t601 t602).bind fun t609=>((c2_Lowest.f a0_0 t609 t603).bind fun bt610=>(some (bt610.1,bt610.2.1,bt610.2.2)))) else ((c1_Minus.f t602 t601).bind fun t613=>((c2_Lowest.f a1_0 t613 t603).bind fun bt614=>(some (bt614.1,bt614.2.1,bt614.2.2)))))))))
end Go.Proofs.ZQ
end
section
namespace Go.Proofs.ZQ
open Go.RowKit Go.Proofs.ZW.Wa Go.Proofs.ZW.Wb Go.Proofs.ZW.Wc
attribute [local go_sem] zaC zaB zaM zaL zaz zay zaF zaE
noncomputable def c2_Times.f (a0_0:Bool) (a0_1:ByteArray) (a0_2:ByteArray) (a1_0:Bool) (a1_1:ByteArray) (a1_2:ByteArray):Option (Bool×ByteArray×ByteArray):=(c1_Times.f a0_1 a1_1).bind fun t618=>((c1_Times.f a0_2 a1_2).bind fun t619=>((c2_Lowest.f (a0_0 != a1_0) t618 t619).bind fun bt620=>(some (bt620.1,bt620.2.1,bt620.2.2))))
noncomputable def c2_Times.B1:List Nat:=[0,1,0,4,15,0,32,0,128,480,0,1024,0,4096,16352,32767,65535]
noncomputable def c2_Minus.f (a0_0:Bool) (a0_1:ByteArray) (a0_2:ByteArray):Option (Bool×ByteArray×ByteArray):=if a0_0=true then (some (false,a0_1,a0_2)) else (some ((a0_1.toList != ([48]:List UInt8)),a0_1,a0_2))
noncomputable def c2_Over.f (a0_0:Bool) (a0_1:ByteArray) (a0_2:ByteArray):Option (Bool×ByteArray×ByteArray):=some (a0_0,a0_2,a0_1)
end Go.Proofs.ZQ
end
section
namespace Go.Proofs.ZQ
open Go.RowKit Go.Proofs.ZW.Wa Go.Proofs.ZP
def Sz (k:Nat) (x:Rat):Prop:=(T x.num.natAbs).size≤k∧(T x.den).size≤k
theorem rr_sz {a b:ByteArray} {x:Rat} (h:RR a b x):Sz 600 x:=⟨(zas (k:=600) (by decide)).2 h.ln,(zas (k:=600) (by decide)).2 h.ld⟩
theorem sz_div {s:Bool} {a b k:Nat} (hb:0<b) (ha:(T a).size≤k) (hbs:(T b).size≤k):Sz k (Rat.divInt (sgn s a) b):=by
 obtain ⟨f1,f2,f3⟩:=zcJ s a b hb
 refine ⟨?_,?_⟩
 ·rw [f1]; exact Nat.le_trans (zbl (Nat.div_le_self _ _)) ha
 ·rw [f2]; exact Nat.le_trans (zbl (Nat.div_le_self _ _)) hbs
theorem core_no {a b:ByteArray} (h:¬ ∃ x,RR a b x):coreB (spl a).1 (spl a).2 b=false:=by
 cases hc:coreB (spl a).1 (spl a).2 b
 ·rfl
 ·exact absurd ((core_iff a b).1 hc) h
theorem neg_sz {x:Rat} {k:Nat} (h:Sz k x):Sz k (-x):=by
 unfold Sz at *
 rw [Rat.neg_num,Int.natAbs_neg]; exact h
theorem rr_zero {a b:ByteArray} {y:Rat} (h:RR a b y):a.toList=([48]:List UInt8)↔y=0:=by
 rw [b48,h.num]
 have e0:T 0=wtext 0:=(zaK (x:=0) (by decide)).symm
 constructor
 ·intro e
  rw [e0] at e
  exact Rat.num_eq_zero.1 (wtext_inj e)
 ·rintro rfl; exact e0.symm
def cmpR (x y:Rat):Int:=(x.num*y.den-y.num*x.den).sign
noncomputable def rat_Cmp.f (a0_0 a0_1 a1_0 a1_1:ByteArray):Option (Int×Int):=by
 classical exact if h:(∃ x,RR a0_0 a0_1 x)∧∃ y,RR a1_0 a1_1 y then some (cmpR h.1.choose h.2.choose,0) else some (0,3)
noncomputable def rat_Floor.f (a0_0 a0_1:ByteArray):Option (ByteArray×ByteArray×Int):=oneF (fun x=>0) (fun x=>((x.floor:Int):Rat)) a0_0 a0_1
end Go.Proofs.ZQ
end
section
namespace Go.Proofs.ZQ
open Go.RowKit Go.Proofs.ZW.Wa Go.Proofs.ZP Go.Proofs.ZW.Wb Go.Proofs.ZW.Wc
noncomputable def c2_Compare.f (a0_0:Bool) (a0_1:ByteArray) (a0_2:ByteArray) (a1_0:Bool) (a1_1:ByteArray) (a1_2:ByteArray):Option (Int):=(c2_Minus.f a1_0 a1_1 a1_2).bind fun bt821=>((c2_Plus.f a0_0 a0_1 a0_2 bt821.1 bt821.2.1 bt821.2.2).bind fun bt824=>(if bt824.2.1.toList=([48]:List UInt8) then (some 0) else (if bt824.1=true then (some (-1)) else (some 1))))
end Go.Proofs.ZQ
end
section
namespace Go.Proofs.ZQ
open Go.RowKit Go.Proofs.ZW.Wa Go.Proofs.ZW.Wb Go.Proofs.ZW.Wc
attribute [local go_sem] zaC zaB zaM zaL zaz zay zaF zaE
noncomputable def c2_Cmp.j0:Nat→Bool→ByteArray→ByteArray→ByteArray→ByteArray→Option (Int×Int)
 | 0,_,_,_,_,_=>none
 | k+1,x13,x801000,x801001,x802000,x802001=>if x13=true then (some (0,3)) else ((c2_Read.f k x801000 x801001).bind fun bt804=>((c2_Read.f k x802000 x802001).bind fun bt807=>((c2_Compare.f bt804.1 bt804.2.1 bt804.2.2 bt807.1 bt807.2.1 bt807.2.2).bind fun t810=>(some (t810,0)))))
noncomputable def c2_Cmp.f (k:Nat) (a0_0:ByteArray) (a0_1:ByteArray) (a1_0:ByteArray) (a1_1:ByteArray):Option (Int×Int):=(c2_Right.f k a0_0 a0_1).bind fun t802=>(if t802=true then ((c2_Right.f k a1_0 a1_1).bind fun t803=>(c2_Cmp.j0 k (!t803) a0_0 a0_1 a1_0 a1_1)) else (c2_Cmp.j0 k true a0_0 a0_1 a1_0 a1_1))
noncomputable def c2_Down.j0:Nat→ByteArray→Bool→Bool→ByteArray→ByteArray→Option (Bool×ByteArray×ByteArray)
 | 0,_,_,_,_,_=>none
 | k+1,x3,x18,x817000,x817001,x817002=>if x18=true then ((c1_Plus.f x3 (⟨#[49]⟩:ByteArray)).bind fun t820=>((c2_Lowest.f x817000 t820 (⟨#[49]⟩:ByteArray)).bind fun bt821=>(some (bt821.1,bt821.2.1,bt821.2.2)))) else ((c2_Lowest.f x817000 x3 (⟨#[49]⟩:ByteArray)).bind fun bt824=>(some (bt824.1,bt824.2.1,bt824.2.2)))
noncomputable def c2_Down.f (k:Nat) (a0_0:Bool) (a0_1:ByteArray) (a0_2:ByteArray):Option (Bool×ByteArray×ByteArray):=(c1_Divide.f a0_1 a0_2).bind fun bt818=>(if a0_0=true then (c2_Down.j0 k bt818.1 (bt818.2.toList != ([48]:List UInt8)) a0_0 a0_1 a0_2) else (c2_Down.j0 k bt818.1 false a0_0 a0_1 a0_2))
noncomputable def c2_Floor.f (k:Nat) (a0_0:ByteArray) (a0_1:ByteArray):Option (ByteArray×ByteArray×Int):=(c2_Right.f k a0_0 a0_1).bind fun t829=>(if t829=true then ((c2_Read.f k a0_0 a0_1).bind fun bt830=>((c2_Down.f k bt830.1 bt830.2.1 bt830.2.2).bind fun bt833=>((c2_Told.f k bt833.1 bt833.2.1 bt833.2.2).bind fun bt836=>(some (bt836.1,bt836.2.1,bt836.2.2))))) else (some ((⟨#[]⟩:ByteArray),(⟨#[]⟩:ByteArray),3)))
noncomputable def rat_Sign.f (a0_0:ByteArray) (a0_1:ByteArray):Option (Int×Int):=(rat_Of.f 0).bind fun bt812=>((rat_Cmp.f a0_0 a0_1 bt812.1 bt812.2).bind fun bt814=>(some (bt814.1,bt814.2)))
end Go.Proofs.ZQ
end
section
namespace Go.Proofs.ZQ
open Go.RowKit Go.Proofs.ZW.Wa Go.Proofs.ZP
theorem cmpR_sub (x y:Rat):cmpR x y=(x-y).num.sign:=by
 have hd:(0:Int)<(x.den:Int)*y.den:=Int.mul_pos (by have:=x.den_pos; omega) (by have:=y.den_pos; omega)
 have e:x-y=Rat.divInt (x.num*y.den-y.num*x.den) (x.den*y.den):=by
  rw [Rat.sub_eq_add_neg,zcY]
  have e1:(-y).num = -y.num:=Rat.neg_num y
  have e2:(-y).den=y.den:=rfl
  rw [e1,e2,Int.neg_mul]; rfl
 have h:=num_mul (x.num*y.den-y.num*x.den) (x.den*y.den) (by omega)
 rw [←e] at h
 have hp:(0:Int)<(x-y).den:=by have:=(x-y).den_pos; omega
 unfold cmpR
 refine (sign_scale hd hp ?_).symm
 rw [h,Int.mul_comm]
end Go.Proofs.ZQ
end
section
namespace Go.Proofs.ZQ
open Go.RowKit Go.Proofs.ZW.Wa Go.Proofs.ZW.Wb Go.Proofs.ZW.Wc
attribute [local go_sem] zaC zaB zaM zaL zaz zay zaF zaE
noncomputable def c1_low.f (a0:Bool) (a1:ByteArray) (a2:ByteArray):Option (Bool×ByteArray×ByteArray):=if a1.toList=([48]:List UInt8) then (some (false,(⟨#[48]⟩:ByteArray),(⟨#[49]⟩:ByteArray))) else ((c1_Common.f a1 a2).bind fun t298=>((c1_Divide.f a1 t298).bind fun bt299=>((c1_Divide.f a2 t298).bind fun bt301=>(some (a0,bt299.1,bt301.1)))))
theorem c1_low.calls (a0:Bool) (a1:ByteArray) (a2:ByteArray) (r1:Bool) (r2:ByteArray) (r3:ByteArray) (w:World) (h:c1_low.f a0 a1 a2=some (r1,r2,r3)) :
  Calls Tryz.prog 163 #[.bool a0,.string a1,.string a2] w fun e w'=>e = .returned (.agg #[.bool r1,.string r2,.string r3])∧Below w.heap.size w w':=by
 have hu28:=Tryz.underlying28
 have HB:=Aside0.mk (Below.refl w.heap.size w)
 have H:(if a1.toList=([48]:List UInt8) then (some (false,(⟨#[48]⟩:ByteArray),(⟨#[49]⟩:ByteArray))) else ((c1_Common.f a1 a2).bind fun t298=>((c1_Divide.f a1 t298).bind fun bt299=>((c1_Divide.f a2 t298).bind fun bt301=>(some (a0,bt299.1,bt301.1))))))=some (r1,r2,r3):=h
 clear h
 by_cases c4:a1.toList=([48]:List UInt8)
 ·rw [if_pos c4] at H
  have c4b0:(a1.toList == ([48]:List UInt8))=true:=beq_iff_eq.mpr c4
  have c4b1:(a1.toList != ([48]:List UInt8))=false:=bne_eq_false_iff_eq.mpr c4
  clear c4
  simp only [Option.some.injEq,Prod.mk.injEq] at H
  obtain ⟨rfl,rfl,rfl⟩:=H
  go_enter Tryz.func163,Tryz.ntmps163
  go_wp2_with (first|((with_reducible refine zaG (N:=6) rfl ?_); refine zaI ?hg (N:=6) ?hd (cs:=#[.bool false,.string (⟨#[]⟩:ByteArray),.string (⟨#[]⟩:ByteArray)]) (t:=28) ?hr ?_; (case hd=>rfl); (case hg=>rfl); (case hr=>first|(go_simp; done)|(go_simp; rfl)); intro gb297 hg w5 hbox hb; have n0_:=Aside0.mk (zam (by repeat (first|(with_reducible first|exact HB.out|apply zaa|apply zab|apply zac)|exact HB.out)) hb); have n1_:=Aside0.mk (hbox); have n2_:=Aside0.mk ((by rw [hg]; exact (zal (by repeat (first|(with_reducible first|exact HB.out|apply zaa|apply zab|apply zac)|exact HB.out))):w.heap.size≤gb297)); have n3_:=Aside0.mk ((by rw [hg]; exact (zal (by repeat (first|(with_reducible first|exact HB.out|apply zaa|apply zab|apply zac)|exact HB.out))):w.heap.size≤gb297)); clear HB; have HB:=n0_; have BK297:=n1_; have GW297:=n2_; have GE297:=n3_; clear n0_ n1_ n2_ n3_; clear hb hbox hg; have hcz6_0:w5.cell? ⟨gb297,0,none⟩=some (.bool false):=(zag BK297.out 0).trans rfl; have hcz6_1:w5.cell? ⟨gb297,1,none⟩=some (.string (⟨#[]⟩:ByteArray)):=(zag BK297.out 1).trans rfl; have hcz6_2:w5.cell? ⟨gb297,2,none⟩=some (.string (⟨#[]⟩:ByteArray)):=(zag BK297.out 2).trans rfl; have hfz6_0:=zae BK297.out 0; have hfz6_1:=zae BK297.out 1; have hfz6_2:=zae BK297.out 2))
  refine bodyPost_ret (results_cell_row rfl _ _ gb297 28 #[.bool false,.string (⟨#[48]⟩:ByteArray),.string (⟨#[49]⟩:ByteArray)] (0,0) _ rfl (by (with_reducible repeat (first|refine zah ?_ _|refine zaj ?_|refine zai ?_ _)); refine zaS (cs:=#[.bool false,.string (⟨#[48]⟩:ByteArray),.string (⟨#[]⟩:ByteArray)]) ?_ 2 _ rfl; (with_reducible repeat (first|refine zah ?_ _|refine zaj ?_|refine zai ?_ _)); refine zaS (cs:=#[.bool false,.string (⟨#[]⟩:ByteArray),.string (⟨#[]⟩:ByteArray)]) ?_ 1 _ rfl; (with_reducible repeat (first|refine zah ?_ _|refine zaj ?_|refine zai ?_ _)); refine zaS (cs:=#[.bool false,.string (⟨#[]⟩:ByteArray),.string (⟨#[]⟩:ByteArray)]) ?_ 0 _ rfl; (with_reducible repeat (first|refine zah ?_ _|refine zaj ?_|refine zai ?_ _)); exact BK297.out) Tryz.underlying28 rfl (by kernel_rfl)) rfl ?_
  exact ⟨by first|rfl|(simp [zao,zan]<;>rfl)|(simp [*,zao,zan]<;>rfl),by repeat (first|(with_reducible first|exact HB.out|apply zaa|apply zab|apply zac|refine zaf ?_ GE297.out)|exact HB.out)⟩
 ·rw [if_neg c4] at H
  have c4b0:(a1.toList == ([48]:List UInt8))=false:=beq_eq_false_iff_ne.mpr c4
  have c4b1:(a1.toList != ([48]:List UInt8))=true:=bne_iff_ne.mpr c4
  replace H:=Option.bind_eq_some_iff.mp H
  obtain ⟨t298,A70,H⟩:=H
  replace H:((c1_Divide.f a1 t298).bind fun bt299=>((c1_Divide.f a2 t298).bind fun bt301=>(some (a0,bt299.1,bt301.1))))=some (r1,r2,r3):=H
  have A7:=Aside0.mk A70
  clear A70
  replace H:=Option.bind_eq_some_iff.mp H
  obtain ⟨⟨t299,t300⟩,A80,H⟩:=H
  replace H:((c1_Divide.f a2 t298).bind fun bt301=>(some (a0,t299,bt301.1)))=some (r1,r2,r3):=H
  have A8:=Aside0.mk A80
  clear A80
  replace H:=Option.bind_eq_some_iff.mp H
  obtain ⟨⟨t301,t302⟩,A90,H⟩:=H
  replace H:(some (a0,t299,t301))=some (r1,r2,r3):=H
  have A9:=Aside0.mk A90
  clear A90
  simp only [Option.some.injEq,Prod.mk.injEq] at H
  obtain ⟨rfl,rfl,rfl⟩:=H
  go_enter Tryz.func163,Tryz.ntmps163
  go_wp2_with (first|((with_reducible refine zaG (N:=6) rfl ?_); refine zaI ?hg (N:=6) ?hd (cs:=#[.bool false,.string (⟨#[]⟩:ByteArray),.string (⟨#[]⟩:ByteArray)]) (t:=28) ?hr ?_; (case hd=>rfl); (case hg=>rfl); (case hr=>first|(go_simp; done)|(go_simp; rfl)); intro gb297 hg w10 hbox hb; have n0_:=Aside0.mk (zam (by repeat (first|(with_reducible first|exact HB.out|apply zaa|apply zab|apply zac)|exact HB.out)) hb); have n1_:=Aside0.mk (hbox); have n2_:=Aside0.mk ((by rw [hg]; exact (zal (by repeat (first|(with_reducible first|exact HB.out|apply zaa|apply zab|apply zac)|exact HB.out))):w.heap.size≤gb297)); have n3_:=Aside0.mk ((by rw [hg]; exact (zal (by repeat (first|(with_reducible first|exact HB.out|apply zaa|apply zab|apply zac)|exact HB.out))):w.heap.size≤gb297)); clear HB; have HB:=n0_; have BK297:=n1_; have GW297:=n2_; have GE297:=n3_; clear n0_ n1_ n2_ n3_; clear hb hbox hg)|((with_reducible refine zav (f:=95) rfl ?_); refine za5 (some 13) rfl rfl Tryz.func95 (by kernel_rfl) rfl #[.string a1,.string a2] rfl (by (try simp only [List.map_toArray,List.map_cons,List.map_nil]); first|done|rfl|(simp only [List.length_drop,List.length_take]; rfl)) ?_; (with_reducible refine (c1_Common.calls a1 a2 t298 _ A7.out).mono ?_); rintro e w11 ⟨rfl,hb⟩; refine ⟨_,rfl,?_⟩; have n0_:=Aside0.mk (zat (g:=gb297) (o:=.cells #[.bool false,.string (⟨#[]⟩:ByteArray),.string (⟨#[]⟩:ByteArray)] 28 (0,0)) (by (with_reducible repeat (first|refine zah ?_ _|refine zaj ?_|refine zai ?_ _)); exact BK297.out) hb); have n1_:=Aside0.mk (zam (by repeat (first|(with_reducible first|exact HB.out|apply zaa|apply zab|apply zac|refine zaf ?_ GE297.out)|exact HB.out)) hb); clear BK297; clear HB; have BK297:=n0_; have HB:=n1_; clear n0_ n1_; (try clear hb); (try clear hb2); (try clear hk); (try clear hi))|((with_reducible refine zav (f:=128) rfl ?_); refine za5 (some 17) rfl rfl Tryz.func128 (by kernel_rfl) rfl #[.string a1,.string t298] rfl (by (try simp only [List.map_toArray,List.map_cons,List.map_nil]); first|done|rfl|(simp only [List.length_drop,List.length_take]; rfl)) ?_; (with_reducible refine (c1_Divide.calls a1 t298 t299 t300 _ A8.out).mono ?_); rintro e w12 ⟨rfl,hb⟩; refine ⟨_,rfl,?_⟩; have n0_:=Aside0.mk (zat (g:=gb297) (o:=.cells #[.bool false,.string (⟨#[]⟩:ByteArray),.string (⟨#[]⟩:ByteArray)] 28 (0,0)) (by (with_reducible repeat (first|refine zah ?_ _|refine zaj ?_|refine zai ?_ _)); exact BK297.out) hb); have n1_:=Aside0.mk (zam (by repeat (first|(with_reducible first|exact HB.out|apply zaa|apply zab|apply zac|refine zaf ?_ GE297.out)|exact HB.out)) hb); clear BK297; clear HB; have BK297:=n0_; have HB:=n1_; clear n0_ n1_; (try clear hb); (try clear hb2); (try clear hk); (try clear hi))|((with_reducible refine zav (f:=128) rfl ?_); refine za5 (some 23) rfl rfl Tryz.func128 (by kernel_rfl) rfl #[.string a2,.string t298] rfl (by (try simp only [List.map_toArray,List.map_cons,List.map_nil]); first|done|rfl|(simp only [List.length_drop,List.length_take]; rfl)) ?_; (with_reducible refine (c1_Divide.calls a2 t298 t301 t302 _ A9.out).mono ?_); rintro e w13 ⟨rfl,hb⟩; refine ⟨_,rfl,?_⟩; have n0_:=Aside0.mk (zat (g:=gb297) (o:=.cells #[.bool false,.string (⟨#[]⟩:ByteArray),.string (⟨#[]⟩:ByteArray)] 28 (0,0)) (by (with_reducible repeat (first|refine zah ?_ _|refine zaj ?_|refine zai ?_ _)); exact BK297.out) hb); have n1_:=Aside0.mk (zam (by repeat (first|(with_reducible first|exact HB.out|apply zaa|apply zab|apply zac|refine zaf ?_ GE297.out)|exact HB.out)) hb); clear BK297; clear HB; have BK297:=n0_; have HB:=n1_; clear n0_ n1_; (try clear hb); (try clear hb2); (try clear hk); (try clear hi); have hcz14_0:w13.cell? ⟨gb297,0,none⟩=some (.bool false):=(zag BK297.out 0).trans rfl; have hcz14_1:w13.cell? ⟨gb297,1,none⟩=some (.string (⟨#[]⟩:ByteArray)):=(zag BK297.out 1).trans rfl; have hcz14_2:w13.cell? ⟨gb297,2,none⟩=some (.string (⟨#[]⟩:ByteArray)):=(zag BK297.out 2).trans rfl; have hfz14_0:=zae BK297.out 0; have hfz14_1:=zae BK297.out 1; have hfz14_2:=zae BK297.out 2))
  refine bodyPost_ret (results_cell_row rfl _ _ gb297 28 #[.bool a0,.string t299,.string t301] (0,0) _ rfl (by (with_reducible repeat (first|refine zah ?_ _|refine zaj ?_|refine zai ?_ _)); refine zaS (cs:=#[.bool a0,.string t299,.string (⟨#[]⟩:ByteArray)]) ?_ 2 _ rfl; (with_reducible repeat (first|refine zah ?_ _|refine zaj ?_|refine zai ?_ _)); refine zaS (cs:=#[.bool a0,.string (⟨#[]⟩:ByteArray),.string (⟨#[]⟩:ByteArray)]) ?_ 1 _ rfl; (with_reducible repeat (first|refine zah ?_ _|refine zaj ?_|refine zai ?_ _)); refine zaS (cs:=#[.bool false,.string (⟨#[]⟩:ByteArray),.string (⟨#[]⟩:ByteArray)]) ?_ 0 _ rfl; (with_reducible repeat (first|refine zah ?_ _|refine zaj ?_|refine zai ?_ _)); exact BK297.out) Tryz.underlying28 rfl (by kernel_rfl)) rfl ?_
  exact ⟨by first|rfl|(simp [zao,zan]<;>rfl)|(simp [*,zao,zan]<;>rfl),by repeat (first|(with_reducible first|exact HB.out|apply zaa|apply zab|apply zac|refine zaf ?_ GE297.out)|exact HB.out)⟩
end Go.Proofs.ZQ
end
section
namespace Go.Proofs.ZQ
open Go.RowKit Go.Proofs.ZW.Wa Go.Proofs.ZP Go.Proofs.ZW.Wb Go.Proofs.ZW.Wc
def FcAt (w:World) (b:Nat) (s:Bool) (x y:ByteArray):Prop:=w.heap[b]? = some (.cells #[.bool s,.string x,.string y] 28 (0,0))
theorem FcAt.c0 {w:World} {b:Nat} {s:Bool} {x y:ByteArray} (h:FcAt w b s x y):w.cell? ⟨b,0,none⟩=some (.bool s):=(zag h 0).trans rfl
theorem FcAt.c1 {w:World} {b:Nat} {s:Bool} {x y:ByteArray} (h:FcAt w b s x y):w.cell? ⟨b,1,none⟩=some (.string x):=(zag h 1).trans rfl
theorem FcAt.c2 {w:World} {b:Nat} {s:Bool} {x y:ByteArray} (h:FcAt w b s x y):w.cell? ⟨b,2,none⟩=some (.string y):=(zag h 2).trans rfl
theorem FcAt.below {w w':World} {b:Nat} {s:Bool} {x y:ByteArray} (h:FcAt w b s x y) (hb:Below w.heap.size w w'):FcAt w' b s x y:=(hb.block _ (zaq h)).trans h
theorem FcAt.keep {w w':World} {b n:Nat} {s:Bool} {x y:ByteArray} (h:FcAt w b s x y) (hb:Below n w w') (hn:b<n):FcAt w' b s x y:=(hb.block _ hn).trans h
theorem FcAt.new (w:World) (s:Bool) (x y:ByteArray):FcAt (w.alloc (.cells #[.bool s,.string x,.string y] 28)) w.heap.size s x y:=zaO w _
theorem FcAt.alloc {w:World} {b:Nat} {s:Bool} {x y:ByteArray} (h:FcAt w b s x y) (o:Obj):FcAt (w.alloc o) b s x y:=h.below (zaa (Below.refl _ _) _)
theorem fc_put {w w2:World} {D:Nat} {s:Bool} {x y:ByteArray} (f:FcAt w2 D s x y) (hb:Below w.heap.size w w2) (hD:w.heap.size≤D) (t:Bool) (u v:ByteArray):FcAt (((w2.setCell ⟨D,0,none⟩ (.bool t)).setCell ⟨D,1,none⟩ (.string u)).setCell ⟨D,2,none⟩ (.string v)) D t u v∧Below w.heap.size w (((w2.setCell ⟨D,0,none⟩ (.bool t)).setCell ⟨D,1,none⟩ (.string u)).setCell ⟨D,2,none⟩ (.string v)):=
 ⟨(zax (zax (zax f 0 (.bool t)) 1 (.string u)) 2 (.string v)).trans rfl,zaf (zaf (zaf hb hD) hD) hD⟩
theorem fc_three (w:World) (s t u:Bool) (a b c d e f:ByteArray):FcAt (((w.alloc (.cells #[.bool s,.string a,.string b] 28)).alloc (.cells #[.bool t,.string c,.string d] 28)).alloc (.cells #[.bool u,.string e,.string f] 28)) w.heap.size s a b ∧
  FcAt (((w.alloc (.cells #[.bool s,.string a,.string b] 28)).alloc (.cells #[.bool t,.string c,.string d] 28)).alloc (.cells #[.bool u,.string e,.string f] 28)) (w.heap.size+1) t c d ∧
  FcAt (((w.alloc (.cells #[.bool s,.string a,.string b] 28)).alloc (.cells #[.bool t,.string c,.string d] 28)).alloc (.cells #[.bool u,.string e,.string f] 28)) (w.heap.size+1+1) u e f ∧
  Below w.heap.size w (((w.alloc (.cells #[.bool s,.string a,.string b] 28)).alloc (.cells #[.bool t,.string c,.string d] 28)).alloc (.cells #[.bool u,.string e,.string f] 28)):=by
 refine ⟨((FcAt.new w s a b).alloc _).alloc _,?_,?_,zaa (zaa (zaa (Below.refl _ _) _) _) _⟩
 ·have h:=(FcAt.new (w.alloc (.cells #[.bool s,.string a,.string b] 28)) t c d).alloc (.cells #[.bool u,.string e,.string f] 28)
  rw [World.size_alloc] at h
  exact h
 ·have h:=FcAt.new ((w.alloc (.cells #[.bool s,.string a,.string b] 28)).alloc (.cells #[.bool t,.string c,.string d] 28)) u e f
  rw [World.size_alloc,World.size_alloc] at h
  exact h
noncomputable def c1_FAdd.f (a0_0:Bool) (a0_1:ByteArray) (a0_2:ByteArray) (a1_0:Bool) (a1_1:ByteArray) (a1_2:ByteArray):Option (Bool×ByteArray×ByteArray):=(c1_Times.f a0_1 a1_2).bind fun t601=>((c1_Times.f a1_1 a0_2).bind fun t602=>((c1_Times.f a0_2 a1_2).bind fun t603=>(if (a0_0 == a1_0)=true then ((c1_Plus.f t601 t602).bind fun t604=>((c1_low.f a0_0 t604 t603).bind fun bt605=>(some (bt605.1,bt605.2.1,bt605.2.2)))) else ((c1_Compare.f t601 t602).bind fun t608=>(if t608≥0 then ((c1_Minus.f t601 t602).bind fun t609=>((c1_low.f a0_0 t609 t603).bind fun bt610=>(some (bt610.1,bt610.2.1,bt610.2.2)))) else ((c1_Minus.f t602 t601).bind fun t613=>((c1_low.f a1_0 t613 t603).bind fun bt614=>(some (bt614.1,bt614.2.1,bt614.2.2)))))))))
theorem c1_FAdd.calls (a0_0:Bool) (a0_1:ByteArray) (a0_2:ByteArray) (a1_0:Bool) (a1_1:ByteArray) (a1_2:ByteArray) (r1:Bool) (r2:ByteArray) (r3:ByteArray) (w:World) (h:c1_FAdd.f a0_0 a0_1 a0_2 a1_0 a1_1 a1_2=some (r1,r2,r3)) :
  Calls Tryz.prog 164 #[.agg #[.bool a0_0,.string a0_1,.string a0_2],.agg #[.bool a1_0,.string a1_1,.string a1_2]] w fun e w'=>e = .returned (.agg #[.bool r1,.string r2,.string r3])∧Below w.heap.size w w':=by
 unfold c1_FAdd.f at h
 obtain ⟨x,hx,h2⟩:=Option.bind_eq_some_iff.1 h
 obtain ⟨y,hy,h3⟩:=Option.bind_eq_some_iff.1 h2
 obtain ⟨d,hd,h4⟩:=Option.bind_eq_some_iff.1 h3
 have HX:=Lib.hid (fun W=>c1_Times.calls a0_1 a1_2 x W hx)
 have HY:=Lib.hid (fun W=>c1_Times.calls a1_1 a0_2 y W hy)
 have HD:=Lib.hid (fun W=>c1_Times.calls a0_2 a1_2 d W hd)
 have H:=Lib.hid h4
 clear h h2 h3 h4 hx hy hd
 go_enter Tryz.func164,Tryz.ntmps164
 obtain ⟨fa,fb,fr,hba⟩:=fc_three w a0_0 a1_0 false a0_1 a0_2 a1_1 a1_2 ⟨#[]⟩ ⟨#[]⟩
 go_wp2_with fail
 generalize (((w.alloc (.cells #[.bool a0_0,.string a0_1,.string a0_2] 28)).alloc (.cells #[.bool a1_0,.string a1_1,.string a1_2] 28)).alloc (.cells #[.bool false,.string ⟨#[]⟩,.string ⟨#[]⟩] 28))=W0 at *
 generalize hBx:w.heap.size+1=X0 at *
 generalize hBe:X0+1=B0 at *
 have HBE:=Lib.hid (show w.heap.size≤B0 by omega)
 have HLT:=Lib.hid (show w.heap.size<B0∧X0<B0 by omega)
 have HK:=Lib.hid (show ∀ W':World,Below W0.heap.size W0 W'→W'.cell? ⟨w.heap.size,1,none⟩=some (.string a0_1)∧W'.cell? ⟨w.heap.size,2,none⟩=some (.string a0_2)∧W'.cell? ⟨X0,1,none⟩=some (.string a1_1)∧W'.cell? ⟨X0,2,none⟩=some (.string a1_2) from fun W' h=>⟨(fa.below h).c1,(fa.below h).c2,(fb.below h).c1,(fb.below h).c2⟩)
 clear hBe hBx
 have HLE:=Lib.hid (show B0≤W0.heap.size from Nat.le_of_lt (zaq fr))
 have HFA:=Lib.hid fa
 have HFB:=Lib.hid fb
 have HFR:=Lib.hid fr
 have HBA:=Lib.hid hba
 clear fa fb fr hba
 have p1:=HFA.out.c1
 have p2:=HFB.out.c2
 go_wp2_with fail
 refine (HX.out _).mono ?_
 rintro e w1 ⟨rfl,hb1⟩
 clear p1 p2
 have p1:=(HFB.out.below hb1).c1
 have p2:=(HFA.out.below hb1).c2
 go_wp2_with fail
 refine (HY.out _).mono ?_
 rintro e w2 ⟨rfl,hb2⟩
 clear p1 p2
 have p1:=(HFA.out.below (bthen hb1 hb2)).c2
 have p2:=(HFB.out.below (bthen hb1 hb2)).c2
 go_wp2_with fail
 refine (HD.out _).mono ?_
 rintro e w3 ⟨rfl,hb3⟩
 clear p1 p2
 have HB3:=Lib.hid (bthen (bthen hb1 hb2) hb3)
 clear hb1 hb2 hb3 HX HY HD HK
 have q0:=(HFA.out.below HB3.out).c0
 have q1:=(HFB.out.below HB3.out).c0
 have HQ:=Lib.hid (show ∀ W':World,Below W0.heap.size W0 W'→W'.cell? ⟨w.heap.size,0,none⟩=some (.bool a0_0)∧W'.cell? ⟨X0,0,none⟩=some (.bool a1_0) from fun W' h=>⟨(HFA.out.below h).c0,(HFB.out.below h).c0⟩)
 have HQS:=Lib.hid (show ∀ (W':World) (u v t:Value),Below W0.heap.size W0 W'→(((W'.setCell ⟨B0,0,none⟩ u).setCell ⟨B0,1,none⟩ v).setCell ⟨B0,2,none⟩ t).cell? ⟨w.heap.size,0,none⟩=some (.bool a0_0)∧(((W'.setCell ⟨B0,0,none⟩ u).setCell ⟨B0,1,none⟩ v).setCell ⟨B0,2,none⟩ t).cell? ⟨X0,0,none⟩=some (.bool a1_0) from fun W' u v t h =>
  have k:=Below.setCell (p:=⟨B0,2,none⟩) (Below.setCell (p:=⟨B0,1,none⟩) (Below.setCell (p:=⟨B0,0,none⟩) (h.mono HLE.out) (Nat.le_refl _) u) (Nat.le_refl _) v) (Nat.le_refl _) t
  ⟨(HFA.out.keep k HLT.out.1).c0,(HFB.out.keep k HLT.out.2).c0⟩)
 by_cases hs:(a0_0 == a1_0)=true
 ·obtain ⟨t,ht,h⟩:=Option.bind_eq_some_iff.1 ((if_pos hs).symm.trans H.out)
  obtain ⟨⟨l0,l1,l2⟩,hl,h⟩:=Option.bind_eq_some_iff.1 h
  cases h
  have HT:=Lib.hid (fun W=>c1_Plus.calls x y t W ht)
  have HL:=Lib.hid (fun W=>c1_low.calls a0_0 t d l0 l1 l2 W hl)
  clear ht hl H
  go_wp2_with fail
  go_region_held3 (fun w'=>w'.cell? ⟨w.heap.size,0,none⟩=some (.bool a0_0)∧w'.cell? ⟨X0,0,none⟩=some (.bool a1_0))
   (first|(with_reducible refine HQS.out _ _ _ _ ?_; repeat (with_reducible first|exact Below.refl _ _|exact HB3.out|apply zar|apply zab|refine bthen ?_ hb5|refine bthen ?_ hb4|refine bthen ?_ hb6))|(with_reducible refine HQ.out _ ?_; repeat (with_reducible first|exact Below.refl _ _|exact HB3.out|apply zar|apply zab|refine bthen ?_ hb5|refine bthen ?_ hb4|refine bthen ?_ hb6)))
   ((first
    | (go_simp; go_at_call 129; refine (HT.out _).mono ?_; rintro e w4 ⟨rfl,hb4⟩)
    | (go_simp; go_at_call 163; refine (HL.out _).mono ?_; rintro e w5 ⟨rfl,hb5⟩; have fr5:=HFR.out.below (show Below W0.heap.size W0 w5 from (by repeat (with_reducible first|exact Below.refl _ _|exact HB3.out|apply zar|apply zab|refine bthen ?_ hb5|refine bthen ?_ hb4|refine bthen ?_ hb6))); have cB0:=fr5.c0; have cB1:=fr5.c1; have cB2:=fr5.c2; have fB0:=zae fr5 0; have fB1:=zae fr5 1; have fB2:=zae fr5 2)))
  have hs1:=zax fr5 0 (.bool l0)
  have hs2:=zax hs1 1 (.string l1)
  have hs3:=zax hs2 2 (.string l2)
  have HS3:=Lib.hid (hs3.trans (show _=some (Obj.cells #[.bool l0,.string l1,.string l2] 28 (0,0)) from rfl))
  have HBF:=Lib.hid (zaf (zaf (zaf (g:=B0) (j:=0) (v:=.bool l0) (bthen HBA.out (show Below W0.heap.size W0 w5 from (by repeat (with_reducible first|exact Below.refl _ _|exact HB3.out|apply zar|apply zab|refine bthen ?_ hb5|refine bthen ?_ hb4|refine bthen ?_ hb6)))) HBE.out) (j:=1) (v:=.string l1) (g:=B0) HBE.out) (j:=2) (v:=.string l2) (g:=B0) HBE.out)
  clear hs1 hs2 hs3 fr5 cB0 cB1 cB2 fB0 fB1 fB2 hb4 hb5
  go_wp2
  refine bodyPost_ret (results_cell_row rfl _ _ B0 28 #[.bool l0,.string l1,.string l2] (0,0) _ rfl HS3.out Tryz.underlying28 rfl (by kernel_rfl)) rfl ?_
  exact ⟨rfl,HBF.out⟩
 ·obtain ⟨c,hc,h⟩:=Option.bind_eq_some_iff.1 ((if_neg hs).symm.trans H.out)
  have HCc:=Lib.hid (fun W=>c1_Compare.calls x y c W hc)
  have hs':(a0_0 == a1_0)=false:=by simpa using hs
  clear hc hs H
  go_wp2_with fail
  refine (HCc.out _).mono ?_
  rintro e w6 ⟨rfl,hb6⟩
  by_cases hg:c≥0
  ·obtain ⟨t,ht,h⟩:=Option.bind_eq_some_iff.1 ((if_pos hg).symm.trans h)
   obtain ⟨⟨l0,l1,l2⟩,hl,h⟩:=Option.bind_eq_some_iff.1 h
   cases h
   have HT:=Lib.hid (fun W=>c1_Minus.calls x y t W ht)
   have HL:=Lib.hid (fun W=>c1_low.calls a0_0 t d l0 l1 l2 W hl)
   clear ht hl HCc
   go_wp2_with fail
   go_region_held3 (fun w'=>w'.cell? ⟨w.heap.size,0,none⟩=some (.bool a0_0)∧w'.cell? ⟨X0,0,none⟩=some (.bool a1_0))
    (first|(with_reducible refine HQS.out _ _ _ _ ?_; repeat (with_reducible first|exact Below.refl _ _|exact HB3.out|apply zar|apply zab|refine bthen ?_ hb5|refine bthen ?_ hb4|refine bthen ?_ hb6))|(with_reducible refine HQ.out _ ?_; repeat (with_reducible first|exact Below.refl _ _|exact HB3.out|apply zar|apply zab|refine bthen ?_ hb5|refine bthen ?_ hb4|refine bthen ?_ hb6)))
    ((first
     | (go_simp; go_at_call 130; refine (HT.out _).mono ?_; rintro e w4 ⟨rfl,hb4⟩)
     | (go_simp; go_at_call 163; refine (HL.out _).mono ?_; rintro e w5 ⟨rfl,hb5⟩; have fr5:=HFR.out.below (show Below W0.heap.size W0 w5 from (by repeat (with_reducible first|exact Below.refl _ _|exact HB3.out|apply zar|apply zab|refine bthen ?_ hb5|refine bthen ?_ hb4|refine bthen ?_ hb6))); have cB0:=fr5.c0; have cB1:=fr5.c1; have cB2:=fr5.c2; have fB0:=zae fr5 0; have fB1:=zae fr5 1; have fB2:=zae fr5 2)))
   have hs1:=zax fr5 0 (.bool l0)
   have hs2:=zax hs1 1 (.string l1)
   have hs3:=zax hs2 2 (.string l2)
   have HS3:=Lib.hid (hs3.trans (show _=some (Obj.cells #[.bool l0,.string l1,.string l2] 28 (0,0)) from rfl))
   have HBF:=Lib.hid (zaf (zaf (zaf (g:=B0) (j:=0) (v:=.bool l0) (bthen HBA.out (show Below W0.heap.size W0 w5 from (by repeat (with_reducible first|exact Below.refl _ _|exact HB3.out|apply zar|apply zab|refine bthen ?_ hb5|refine bthen ?_ hb4|refine bthen ?_ hb6)))) HBE.out) (j:=1) (v:=.string l1) (g:=B0) HBE.out) (j:=2) (v:=.string l2) (g:=B0) HBE.out)
   clear hs1 hs2 hs3 fr5 cB0 cB1 cB2 fB0 fB1 fB2 hb4 hb5
   go_wp2
   refine bodyPost_ret (results_cell_row rfl _ _ B0 28 #[.bool l0,.string l1,.string l2] (0,0) _ rfl HS3.out Tryz.underlying28 rfl (by kernel_rfl)) rfl ?_
   exact ⟨rfl,HBF.out⟩
  ·obtain ⟨t,ht,h⟩:=Option.bind_eq_some_iff.1 ((if_neg hg).symm.trans h)
   obtain ⟨⟨l0,l1,l2⟩,hl,h⟩:=Option.bind_eq_some_iff.1 h
   cases h
   have HT:=Lib.hid (fun W=>c1_Minus.calls y x t W ht)
   have HL:=Lib.hid (fun W=>c1_low.calls a1_0 t d l0 l1 l2 W hl)
   clear ht hl HCc
   go_wp2_with fail
   go_region_held3 (fun w'=>w'.cell? ⟨w.heap.size,0,none⟩=some (.bool a0_0)∧w'.cell? ⟨X0,0,none⟩=some (.bool a1_0))
    (first|(with_reducible refine HQS.out _ _ _ _ ?_; repeat (with_reducible first|exact Below.refl _ _|exact HB3.out|apply zar|apply zab|refine bthen ?_ hb5|refine bthen ?_ hb4|refine bthen ?_ hb6))|(with_reducible refine HQ.out _ ?_; repeat (with_reducible first|exact Below.refl _ _|exact HB3.out|apply zar|apply zab|refine bthen ?_ hb5|refine bthen ?_ hb4|refine bthen ?_ hb6)))
    ((first
     | (go_simp; go_at_call 130; refine (HT.out _).mono ?_; rintro e w4 ⟨rfl,hb4⟩)
     | (go_simp; go_at_call 163; refine (HL.out _).mono ?_; rintro e w5 ⟨rfl,hb5⟩; have fr5:=HFR.out.below (show Below W0.heap.size W0 w5 from (by repeat (with_reducible first|exact Below.refl _ _|exact HB3.out|apply zar|apply zab|refine bthen ?_ hb5|refine bthen ?_ hb4|refine bthen ?_ hb6))); have cB0:=fr5.c0; have cB1:=fr5.c1; have cB2:=fr5.c2; have fB0:=zae fr5 0; have fB1:=zae fr5 1; have fB2:=zae fr5 2)))
   have hs1:=zax fr5 0 (.bool l0)
   have hs2:=zax hs1 1 (.string l1)
   have hs3:=zax hs2 2 (.string l2)
   have HS3:=Lib.hid (hs3.trans (show _=some (Obj.cells #[.bool l0,.string l1,.string l2] 28 (0,0)) from rfl))
   have HBF:=Lib.hid (zaf (zaf (zaf (g:=B0) (j:=0) (v:=.bool l0) (bthen HBA.out (show Below W0.heap.size W0 w5 from (by repeat (with_reducible first|exact Below.refl _ _|exact HB3.out|apply zar|apply zab|refine bthen ?_ hb5|refine bthen ?_ hb4|refine bthen ?_ hb6)))) HBE.out) (j:=1) (v:=.string l1) (g:=B0) HBE.out) (j:=2) (v:=.string l2) (g:=B0) HBE.out)
   clear hs1 hs2 hs3 fr5 cB0 cB1 cB2 fB0 fB1 fB2 hb4 hb5
   go_wp2
   refine bodyPost_ret (results_cell_row rfl _ _ B0 28 #[.bool l0,.string l1,.string l2] (0,0) _ rfl HS3.out Tryz.underlying28 rfl (by kernel_rfl)) rfl ?_
   exact ⟨rfl,HBF.out⟩
end Go.Proofs.ZQ
end
