/- Texts under the proof, joined by a program (prune.py): QPure3, HAll, HTwo, QRatB, QPlus, Q196. -/
import Derived.Test.YtglaeambknhjlaaGreatDoorCRatOrders15
import Derived.Test.YtglaeambknhjlaaGreatDoorCRatOrders13
import Derived.Test.YtglaeambknhjlaaGreatDoorCRatOrders09
import Derived.Laws.CopyOwn
import Derived.Test.YtglaeambknhjlaaGreatDoorCRatOrders04
import Derived.WalkSpells
import Derived.StillTailTactics
import Derived.Shelf.Abstract
import Derived.Test.YtglaeambknhjlaaGreatDoorCRatOrders07
import Derived.Test.YtglaeambknhjlaaGreatDoorCRatOrders12
import Derived.Test.YtglaeambknhjlaaGreatDoorCRatOrders11
set_option linter.unusedVariables false
set_option linter.unusedSimpArgs false
set_option exponentiation.threshold 20001
set_option maxHeartbeats 8000000
set_option maxRecDepth 100000
section
namespace Go.Proofs.ZQ
open Go.RowKit Go.Proofs.ZW.Wa Go.Proofs.ZP
theorem dval_zeros (k:Nat):dval (List.replicate k (48:UInt8))=0:=by
  induction k with
  | zero=>rfl
  | succ k ih=>rw [List.replicate_succ,zb0,ih]; simp
theorem T_ten (p:Nat):(⟨#[49]⟩:ByteArray)++ZP.zer p=T (10^p):=by
  have hd:((⟨#[49]⟩:ByteArray)++ZP.zer p).data.toList=49 :: List.replicate p (48:UInt8):=by
    rw [ByteArray.data_append,Array.toList_append]; simp [ZP.zer]
  refine (can_T ?_).trans (congrArg T ?_)
  · rw [hd]
    refine ⟨by simp,?_,fun e=>by simp at e⟩
    intro c hc
    rcases List.mem_cons.1 hc with rfl|hc
    · decide
    · rw [(List.mem_replicate.1 hc).2]; decide
  · rw [hd,zb0,dval_zeros,List.length_replicate]
    show (49-48)*10^p+0=_
    omega
theorem zer_sz (k:Nat):(ZP.zer k).size=k:=by show (List.replicate k (48:UInt8)).toArray.size=k; simp
theorem zcY (p:Nat):(T (10^p)).size=p+1:=by
  rw [←T_ten,ByteArray.size_append,zer_sz]; show 1+p=_; omega
theorem T_last (n : Nat) : 0 < (T n).size ∧ bt (T n) (((T n).size : Int) - 1) = (48 + n % 10 : Nat) := by
  have hp:=zbb n
  refine ⟨hp,?_⟩
  have hl:(T n).size-1<(T n).data.toList.length:=by rw [zat]; omega
  have e:((T n).size:Int)-1=(((T n).size-1:Nat):Int):=by omega
  rw [e,bt_nth _ hl]
  congr 1
  have hg:∀ (l:List UInt8) (h:l.length-1<l.length),l[l.length-1]=l.getLast (fun e=>by rw [e] at h; cases h):=fun l h=>(List.getLast_eq_getElem _).symm
  have h2:(T n).data.toList.length-1<(T n).data.toList.length:=by rw [zat]; omega
  have e2:(T n).data.toList[(T n).size-1]=(T n).data.toList[(T n).data.toList.length-1]:=by
    congr 1
  rw [e2,hg _ h2]
  have hd:(T n).data.toList=decl n:=T_data n
  have h3:∀ (l:List UInt8) (h:l ≠ []),l=decl n→(l.getLast h).toNat=48+n%10:=by
    rintro l h rfl
    by_cases h0:n=0
    · subst h0; rfl
    · have e3:decl n=(rdig (n/10)).reverse ++ [UInt8.ofNat (48+n%10)]:=by
        unfold decl
        rw [if_neg h0,zbP (by omega),List.reverse_cons]
      have:(decl n).getLast h=UInt8.ofNat (48+n%10):=by
        exact (fun (l l':List UInt8) (c:UInt8) (h:l ≠ []) (e:l=l' ++ [c])=>(by subst e; simp:l.getLast h=c)) _ _ _ h e3
      rw [this,za1 _ (Nat.mod_lt _ (by decide))]
  exact h3 _ _ hd
theorem T_odd (n:Nat):((((bt (T n) (((T n).size:Int)-1))-48)%256)%2=1)↔n%2=1:=by
  rw [(T_last n).2]
  omega
theorem T_2:(⟨#[50]⟩:ByteArray)=T 2:=by unfold T; rw [zbQ (by decide)]; rfl
theorem Near_T {a b:Nat} (ha:(T a).size≤137438950000) (hb:(T b).size≤137438950000) (h:0<b):c2_Near.f (T a) (T b)=some (T (near a b)):=by
  have hr:(T (a%b)).size≤137438950000:=Nat.le_trans (za7 (Nat.mod_le a b)) ha
  have hq:(T (a/b)).size≤137438950000:=Nat.le_trans (za7 (Nat.div_le_self a b)) ha
  have h2:(T 2).size≤137438950000:=by rw [←T_2]; decide
  have hr2:(T (a%b*2)).size≤137438952472:=by
    have:=zbk (a%b) 2
    have e:(T 2).size=1:=by rw [←T_2]; rfl
    omega
  have h1:(T 1).size≤137438952472:=by rw [←T_1]; decide
  have hp:=T_last (a/b)
  have ho:=T_odd (a/b)
  unfold c2_Near.f
  rw [zdC (by omega) (by omega) h,Option.bind_some]
  simp only [T_2,T_1]
  rw [zda (by omega) (by omega),Option.bind_some,Compare_T (by omega) (by omega),Option.bind_some,Plus_T (by omega) (by omega),Option.bind_some]
  have hw:wrap64 (((T (a/b)).size:Int)-1)=((T (a/b)).size:Int)-1:=by unfold wrap64; omega
  rw [hw]
  unfold near
  rcases Nat.lt_trichotomy (a%b*2) b with hlt|hE|hgt
  · have hc:cmpN (a%b*2) b = -1:=if_pos hlt
    rw [hc,if_neg (by decide),if_neg (by decide),if_neg (by omega)]
  · have hc:cmpN (a%b*2) b=0:=(if_neg (by omega)).trans (if_neg (by omega))
    rw [hc,if_neg (by decide),if_pos rfl,if_pos (by omega),if_pos (by omega)]
    by_cases h5:a/b%2=1
    · rw [if_pos (ho.2 h5),if_pos (by omega)]
    · rw [if_neg (fun e=>h5 (ho.1 e)),if_neg (by omega)]
  · have hc:cmpN (a%b*2) b=1:=(if_neg (by omega)).trans (if_pos hgt)
    rw [hc,if_pos (by decide),if_pos (by omega)]
theorem even_places (x : Rat) (p : Nat) : evenR (x * tenR (p : Int)) = sgn (decide (x.num < 0)) (near (x.num.natAbs * 10 ^ p) x.den) := by
  have hden:=x.den_pos
  have e1:x*tenR (p:Int)=Rat.divInt (sgn (decide (x.num<0)) (x.num.natAbs*10^p)) x.den:=by
    have ht:tenR (p:Int)=(((10:Int)^p:Int):Rat):=by unfold tenR; rw [if_neg (by omega),Int.natAbs_natCast]
    have hi:((((10:Int)^p:Int)):Rat).num=(10:Int)^p:=rfl
    have hj:((((10:Int)^p:Int)):Rat).den=1:=rfl
    rw [ht,mul_divInt,hi,hj,Int.natCast_one,Int.mul_one,←zcs,zdh,Int.natCast_pow]; rfl
  obtain ⟨f1,f2,f3⟩:=zcK (decide (x.num<0)) (x.num.natAbs*10^p) x.den hden
  rw [even_near,e1]
  have hn : near (Rat.divInt (sgn (decide (x.num < 0)) (x.num.natAbs * 10 ^ p)) x.den).num.natAbs (Rat.divInt (sgn (decide (x.num < 0)) (x.num.natAbs * 10 ^ p)) x.den).den = near (x.num.natAbs * 10 ^ p) x.den := by
    refine near_div _ _ _ hden ?_
    rw [f1,f2]
    generalize x.num.natAbs*10^p=A
    obtain ⟨u,hu⟩:=Nat.gcd_dvd_left A x.den
    obtain ⟨v,hv⟩:=Nat.gcd_dvd_right A x.den
    have hg:0<Nat.gcd A x.den:=Nat.gcd_pos_of_pos_right _ hden
    have hu' : A / Nat.gcd A x.den = u := by conv => lhs; lhs; rw [hu]
                                             exact Nat.mul_div_cancel_left _ hg
    have hv' : x.den / Nat.gcd A x.den = v := by conv => lhs; lhs; rw [hv]
                                                 exact Nat.mul_div_cancel_left _ hg
    rw [hu',hv']
    conv=>lhs; rw [hv]
    conv=>rhs; rw [hu]
    rw [←Nat.mul_assoc,Nat.mul_comm u,Nat.mul_assoc]
  rw [hn,f3]
  by_cases h0:x.num.natAbs*10^p=0
  · rw [h0]
    have:near 0 x.den=0:=by
      unfold near
      rw [Nat.zero_mod,Nat.zero_div]
      exact if_neg (by omega)
    rw [this]
    cases decide (x.num<0)<;>rfl
  · rw [decide_eq_true h0,Bool.and_true]
theorem Steps_T (s:Bool) (a b p:Nat) (hb:0<b) (ha:(T a).size≤100000) (hbs:(T b).size≤100000) (hp:p≤100000):c2_Steps.f s (T a) (T b) (p:Int)=some (T (near (a*10^p) b)):=by
  unfold c2_Steps.f
  have ht:=zcY p
  have hm:(T (a*10^p)).size≤200001:=by have:=zbk a (10^p); omega
  rw [if_pos (by omega),Zeros_n p (by omega),Option.bind_some,if_pos (by rw [zcP]; omega),show (⟨#[49]⟩:ByteArray)++zer p=T (10^p) from T_ten p,zda (by omega) (by omega),Option.bind_some,Near_T (by omega) (by omega) hb,Option.bind_some]
theorem read_ev (a b:ByteArray) (x:Rat) (h:RR a b x):Ev (fun k=>c2_Read.f k a b) (Fr x):=by
  have hs:spl a=(decide (x.num<0),T x.num.natAbs):=by
    rw [h.num]
    conv=>lhs; rw [←zdh x.num]
    exact spl_wtext _ _ (fun e=>by have:=of_decide_eq_true e; omega)
  have hne:¬ a.toList=([]:List UInt8):=by
    intro e
    have h1:=spl_empty e
    rw [hs] at h1
    have h2:=congrArg Prod.snd h1
    have h3:=congrArg ByteArray.size h2
    have h4:=zbb x.num.natAbs
    have h5:a.size=0:=by rw [←zat,←ba_toList,e]; rfl
    have h6:(T x.num.natAbs).size=a.size:=h3
    omega
  have hp:=size_pos_of hne
  have hb:(b.toList == ([]:List UInt8))=false:=by
    refine beq_eq_false_iff_ne.2 (fun e => ?_)
    have h4:=zbb x.den
    rw [←h.den,←zat,←ba_toList,e] at h4
    cases h4
  unfold c2_Read.f
  rw [hb]
  refine Ev.congr (fun k=>if_neg hne) ?_
  refine Ev.step (f:=fun k=>some (Fr x)) (fun k => ?_) (Ev.now _)
  show c2_Read.j0 (k+1) false a b=_
  simp only [c2_Read.j0]
  have hbt:=bt0 hp
  rw [if_neg (by decide),if_pos (by omega)]
  have hF:Fr x=((spl a).1,(spl a).2,b):=by unfold Fr; rw [hs,h.den]
  rw [hF]
  cases hh:(spl a).1
  · rw [hh] at hbt
    rw [if_neg (beq_eq_false_iff_ne.1 hbt),spl_pos hh]
  · rw [hh] at hbt
    rw [if_pos (beq_iff_eq.1 hbt),if_pos (by omega),(spl_neg hh).2]
theorem tail_f (t sg:ByteArray) (p:Nat) (h1:p+1≤t.size) (h2:t.size≤100000) (h3:sg.size≤1):(if (p:Int)=0 then (if sg.size+t.size≤9223372036854775807 then (some (sg++t,(0:Int))) else (none)) else (if 0≤(wrap64 ((t.size:Int)-p)) then (if (wrap64 ((t.size:Int)-p))≤(t.size:Int) then (if sg.size+(t.extract 0 ((wrap64 ((t.size:Int)-p)):Int).toNat).size≤9223372036854775807 then (if (sg++(t.extract 0 ((wrap64 ((t.size:Int)-p)):Int).toNat)).size+1≤9223372036854775807 then (if ((sg++(t.extract 0 ((wrap64 ((t.size:Int)-p)):Int).toNat))++(⟨#[46]⟩:ByteArray)).size+(t.extract ((wrap64 ((t.size:Int)-p)):Int).toNat t.size).size≤9223372036854775807 then (some (((sg++(t.extract 0 ((wrap64 ((t.size:Int)-p)):Int).toNat))++(⟨#[46]⟩:ByteArray))++(t.extract ((wrap64 ((t.size:Int)-p)):Int).toNat t.size),0)) else (none)) else (none)) else (none)) else (none)) else (none)))=some (sg++ptT t p,0):=by
  have hw:wrap64 ((t.size:Int)-p)=(t.size:Int)-p:=by unfold wrap64; omega
  have hn:((t.size:Int)-p).toNat=t.size-p:=by omega
  have e0:(t.extract 0 (t.size-p)).size=min (t.size-p) t.size:=by rw [ByteArray.size_extract,Nat.sub_zero]
  have e1:(t.extract (t.size-p) t.size).size=t.size-(t.size-p):=by rw [ByteArray.size_extract,Nat.min_self]
  have e4:(⟨#[46]⟩:ByteArray).size=1:=rfl
  by_cases h0:p=0
  · subst h0
    have e:ptT t 0=t:=if_neg (by decide)
    rw [if_pos (show ((0:Nat):Int)=0 from rfl),if_pos (by omega),e]
  · rw [if_neg (by omega),hw,hn,if_pos (by omega),if_pos (by omega),if_pos (by omega),if_pos (by rw [ByteArray.size_append]; omega),if_pos (by rw [ByteArray.size_append,ByteArray.size_append]; omega)]
    unfold ptT
    rw [if_pos (by omega),ByteArray.append_assoc,ByteArray.append_assoc,ByteArray.append_assoc]
theorem j2_ev (p:Nat) (t sg:ByteArray) (hp:p≤600) (ht:t.size≤600) (ht0:0<t.size) (hs:sg.size≤1):Ev (fun k=>c2_Digits.j2 k (p:Int) t sg) (sg++ptT (padT t p) p,0):=by
  refine Ev.step (f:=fun k=>some (sg++ptT (padT t p) p,0)) (fun k => ?_) (Ev.now _)
  simp only [c2_Digits.j2]
  by_cases h:(t.size:Int)≤p
  · have hz:wrap64 ((wrap64 ((p:Int)+1))-(t.size:Int))=((p+1-t.size:Nat):Int):=by unfold wrap64; omega
    have hpad:padT t p=zer (p+1-t.size)++t:=if_pos (by omega)
    have hsz:(zer (p+1-t.size)).size=p+1-t.size:=zcP _
    rw [if_pos h,hz,Zeros_n _ (by omega),Option.bind_some,if_pos (by omega),hpad]
    exact tail_f _ sg p (by rw [ByteArray.size_append]; omega) (by rw [ByteArray.size_append]; omega) hs
  · have hpad:padT t p=t:=if_neg (by omega)
    rw [if_neg h,hpad]
    exact tail_f t sg p (by omega) (by omega) hs
theorem digits_ev (a b : ByteArray) (p : Int) (hp0 : -9223372036854775808 ≤ p) (hp1 : p < 9223372036854775808) : ∃ r, rat_Digits.f a b p = some r ∧ Ev (fun k => c2_Digits.f k a b p) r := by
  by_cases he:∃ x,RR a b x
  · have hx := he.choose_spec
    have hc:=(core_iff a b).2 he
    have hr:=right_ev a b
    rw [hc] at hr
    refine ⟨digR he.choose p,?_,?_⟩
    · unfold rat_Digits.f; rw [dif_pos he]
    unfold c2_Digits.f
    generalize he.choose=x at hx
    refine Ev.bind hr ?_
    refine Ev.congr (fun k=>if_pos rfl) ?_
    by_cases hb:p<0∨600<p
    · have hd:digR x p=(⟨#[]⟩,1):=if_pos hb
      rw [hd]
      have hj:Ev (fun k=>c2_Digits.j0 k p true a b) ((⟨#[]⟩:ByteArray),(1:Int)):=by
        refine Ev.step (f:=fun _=>some (⟨#[]⟩,1)) (fun k => ?_) (Ev.now _)
        simp only [c2_Digits.j0]
        rw [if_pos trivial]
      by_cases hn:p<0
      · exact Ev.congr (fun k=>if_pos hn) hj
      · have:decide (p>600)=true:=decide_eq_true (by omega)
        rw [this]
        exact Ev.congr (fun k=>if_neg hn) hj
    · obtain ⟨q,rfl⟩:∃ q:Nat,p=q:=⟨p.toNat,by omega⟩
      have hq:q≤600:=by omega
      have hf:decide ((q:Int)>600)=false:=decide_eq_false (by omega)
      rw [hf]
      refine Ev.congr (fun k=>if_neg (by omega)) ?_
      have sn:=(zaz (k:=600) (by decide)).2 hx.ln
      have sd:=(zaz (k:=600) (by decide)).2 hx.ld
      have hE:=even_places x q
      have hst:=Steps_T (Fr x).1 x.num.natAbs x.den q x.den_pos (by omega) (by omega) (by omega)
      have hab:(evenR (x*tenR (q:Int))).natAbs=near (x.num.natAbs*10^q) x.den:=by rw [hE,zc4]
      have hdg:digR x (q:Int)=if 600<(T (near (x.num.natAbs*10^q) x.den)).size then (⟨#[]⟩,7) else (dgt (evenR (x*tenR (q:Int))) q,0):=by
        unfold digR
        rw [if_neg hb,hab,Int.toNat_natCast]
      rw [hdg]
      generalize near (x.num.natAbs*10^q) x.den=M at hst hE hab
      refine Ev.step (f:=fun k=>(c2_Read.f k a b).bind fun bt436=>((c2_Steps.f bt436.1 bt436.2.1 bt436.2.2 (q:Int)).bind fun t440=>(if (t440.size:Int)>600 then (some ((⟨#[]⟩:ByteArray),7)) else (if bt436.1=true then (c2_Digits.j1 k (q:Int) t440 (⟨#[]⟩:ByteArray) (t440.toList != ([48]:List UInt8))) else (c2_Digits.j1 k (q:Int) t440 (⟨#[]⟩:ByteArray) false))))) (fun k => ?_) ?_
      · simp only [c2_Digits.j0]
        rw [if_neg (by decide)]
      refine Ev.bind (read_ev a b x hx) ?_
      refine Ev.congr (f:=fun k=>(if ((T M).size:Int)>600 then (some ((⟨#[]⟩:ByteArray),7)) else (if (Fr x).1=true then (c2_Digits.j1 k (q:Int) (T M) (⟨#[]⟩:ByteArray) ((T M).toList != ([48]:List UInt8))) else (c2_Digits.j1 k (q:Int) (T M) (⟨#[]⟩:ByteArray) false)))) (fun k => ?_) ?_
      · have:c2_Steps.f (Fr x).1 (Fr x).2.1 (Fr x).2.2 (q:Int)=some (T M):=hst
        rw [this,Option.bind_some]
      by_cases hM:600<(T M).size
      · rw [if_pos hM]
        exact Ev.congr (fun k=>if_pos (by omega)) (Ev.now _)
      · rw [if_neg hM]
        refine Ev.congr (fun k=>if_neg (by omega)) ?_
        have hMp:=zbb M
        have hj1f:Ev (fun k=>c2_Digits.j1 k (q:Int) (T M) (⟨#[]⟩:ByteArray) false) (ptT (padT (T M) q) q,0):=by
          refine Ev.step (f:=fun k=>c2_Digits.j2 k (q:Int) (T M) (⟨#[]⟩:ByteArray)) (fun k => ?_) ?_
          · simp only [c2_Digits.j1]
            rw [if_neg (by decide)]
          · have h:=j2_ev q (T M) ⟨#[]⟩ hq (by omega) hMp (by decide)
            have e:(⟨#[]⟩:ByteArray)++ptT (padT (T M) q) q=ptT (padT (T M) q) q:=ByteArray.empty_append
            rw [e] at h
            exact h
        have hj1t:Ev (fun k=>c2_Digits.j1 k (q:Int) (T M) (⟨#[]⟩:ByteArray) true) ((⟨#[45]⟩:ByteArray)++ptT (padT (T M) q) q,0):=by
          refine Ev.step (f:=fun k=>c2_Digits.j2 k (q:Int) (T M) (⟨#[45]⟩:ByteArray)) (fun k => ?_) ?_
          · simp only [c2_Digits.j1]
            rw [if_pos trivial]
          · exact j2_ev q (T M) ⟨#[45]⟩ hq (by omega) hMp (by decide)
        have hs1:(Fr x).1=decide (x.num<0):=rfl
        unfold dgt
        rw [hab]
        by_cases hn:x.num<0
        · rw [decide_eq_true hn] at hE hs1
          refine Ev.congr (fun k=>if_pos hs1) ?_
          by_cases hm0:M=0
          · subst hm0
            have hb0:((T 0).toList != ([48]:List UInt8))=false:=by rw [b48.2 rfl]; rfl
            rw [hb0,if_neg (by rw [hE]; decide)]
            exact hj1f
          · have hb1:((T M).toList != ([48]:List UInt8))=true:=bne_iff_ne.2 (fun e=>hm0 (T_inj (b48.1 e)))
            rw [hb1,if_pos (by rw [hE]; simp [sgn]; omega)]
            exact hj1t
        · rw [decide_eq_false hn] at hE hs1
          refine Ev.congr (fun k=>if_neg (by rw [hs1]; decide)) ?_
          rw [if_neg (by rw [hE]; simp [sgn])]
          exact hj1f
  · have hc:coreB (spl a).1 (spl a).2 b=false:=by
      cases hcc:coreB (spl a).1 (spl a).2 b
      · rfl
      · exact absurd ((core_iff a b).1 hcc) he
    have hr:=right_ev a b
    rw [hc] at hr
    refine ⟨(⟨#[]⟩,3),?_,?_⟩
    · unfold rat_Digits.f; rw [dif_neg he]
    · unfold c2_Digits.f
      refine Ev.bind hr ?_
      exact Ev.congr (fun k=>if_neg (by decide)) (Ev.now _)
end Go.Proofs.ZQ
end
section
namespace Go.Proofs.ZP
open Go.RowKit Go.Proofs.ZW.Wa
def RowR (w:World) (A:Option Addr) (ps:List (ByteArray×ByteArray)):Prop:=
 ∀ j (h:j<ps.length),∃ b o,A=some ⟨b,o,none⟩∧b<w.heap.size∧w.cell? ⟨b,o+j*2,none⟩=some (.string ps[j].1)∧w.cell? ⟨b,o+j*2+1,none⟩=some (.string ps[j].2)
theorem RowR.below {w w':World} {A:Option Addr} {ps:List (ByteArray×ByteArray)} (h:RowR w A ps) (hb:Below w.heap.size w w'):RowR w' A ps:=fun j hj=>by
 obtain ⟨b,o,e,hl,h1,h2⟩:=h j hj
 have hs:=hb.size
 exact ⟨b,o,e,by omega,(hb.cell (p:=⟨b,o+j*2,none⟩) hl).trans h1,(hb.cell (p:=⟨b,o+j*2+1,none⟩) hl).trans h2⟩
def ptrs (n:Nat) (ds:List Nat):List Value:=ds.map (fun d=>Value.pointer (some ⟨d,0,none⟩))++List.replicate (n-ds.length) (.pointer none)
theorem zcw {n:Nat} {ds:List Nat} (h:ds.length≤n):(ptrs n ds).length=n:=by unfold ptrs; simp; omega
theorem ptrs_snoc {n:Nat} {ds:List Nat} (h:ds.length<n) (d:Nat):(ptrs n ds).take ds.length++([Value.pointer (some ⟨d,0,none⟩)]++(ptrs n ds).drop (ds.length+1))=ptrs n (ds ++ [d]):=by
 have hl:(ds.map (fun d=>Value.pointer (some ⟨d,0,none⟩))).length=ds.length:=by simp
 unfold ptrs
 rw [List.take_left' hl,List.drop_append,hl,show ds.length+1-ds.length=1 by omega,List.drop_of_length_le (by rw [hl]; omega),List.nil_append,List.drop_replicate]
 simp only [List.map_append,List.map_cons,List.map_nil,List.length_append,List.length_singleton,List.append_assoc]
 congr 3
theorem upd_setRow {w:World} {g:Nat} {cur new:Array Value} {t:TypeId} (hg:w.heap[g]? = some (.cells cur t (0,0))) (ht:t≠171) (hs:new.size=cur.size):Upd w (w.setRow g new) g 0 cur.size where
 os:=rfl
 tape:=rfl
 output:=rfl
 size:=by simp [World.setRow]
 other:=fun k _ hne=>setRow_other w g k new hne
 word:=fun k cs' hk=>setRow_other w g k new (by
  rintro rfl
  rw [hg] at hk
  injection hk with hk
  injection hk with _ hk
  exact ht hk)
 same:=fun cs' t' hk=>by
  rw [hg] at hk
  injection hk with hk
  injection hk with e1 e2
  subst e1; subst e2
  exact ⟨new,setRow_heap w g cur new t (0,0) hg,hs,fun i hi=>by
   rcases hi with hi|hi
   ·omega
   ·rw [Array.getElem?_eq_none (by omega),Array.getElem?_eq_none (by omega)]⟩
structure ASt (w wr:World) (g n:Nat) (X:Nat→Rat) (ds:List Nat):Prop where
 le:ds.length≤n
 blk:wr.heap[g]? = some (.cells (ptrs n ds).toArray 82 (0,0))
 at_:∀ j (h:j<ds.length),w.heap.size≤ds[j]∧g≠ds[j]∧RatAt wr ds[j] (X j)
 below:Below w.heap.size w wr
 ge:w.heap.size≤g
theorem ASt.below' {w wr w':World} {g n:Nat} {X:Nat→Rat} {ds:List Nat} (h:ASt w wr g n X ds) (hb:Below wr.heap.size wr w'):ASt w w' g n X ds where
 le:=h.le
 blk:=(hb.block _ (zas h.blk)).trans h.blk
 at_:=fun j hj=>by
  obtain ⟨h1,h2,h3⟩:=h.at_ j hj
  exact ⟨h1,h2,h3.below hb⟩
 below:=bthen h.below hb
 ge:=h.ge
theorem ASt.more {w wr:World} {g n:Nat} {X:Nat→Rat} {ds:List Nat} (h:ASt w wr g n X ds) (hl:ds.length<n) (d:Nat) (hd:w.heap.size≤d) (hne:g≠d) (hx:RatAt wr d (X ds.length)) :
  Hid (ASt w (wr.setRow g ((ptrs n ds).take ds.length++([Value.pointer (some ⟨d,0,none⟩)]++(ptrs n ds).drop (ds.length+1))).toArray) g n X (ds ++ [d])):=by
 rw [ptrs_snoc hl]
 have hu:=upd_setRow (new:=(ptrs n (ds ++ [d])).toArray) h.blk (by decide) (by
  simp only [List.size_toArray]
  rw [zcw (by simp; omega),zcw h.le])
 exact {
  le:=by simp; omega
  blk:=setRow_heap _ _ _ _ _ _ h.blk
  at_:=fun j hj=>by
   rw [List.length_append,List.length_singleton] at hj
   by_cases e:j<ds.length
   ·obtain ⟨h1,h2,h3⟩:=h.at_ j e
    rw [List.getElem_append_left e]
    exact ⟨h1,h2,h3.upd hu (fun e=>h2 e.symm)⟩
   ·have:j=ds.length:=by omega
    subst this
    rw [List.getElem_append_right (Nat.le_refl _)]
    simp only [Nat.sub_self,List.getElem_cons_zero]
    exact ⟨hd,hne,hx.upd hu (fun e=>hne e.symm)⟩
  below:=below_setRow h.below h.ge _
  ge:=h.ge }
theorem infoPR:(Tryz.prog.info? 82).map (fun i=>(i.zero,i.size,i.bytes))=some (some (.pointer none),1,8):=by kernel_rfl
theorem made_ptrs (n:Nat):madeCells #[Value.pointer none] n=(ptrs n []).toArray:=by
 unfold ptrs
 apply Array.ext
 ·simp [size_madeCells]
 ·intro i h1 h2
  simp [madeCells,Nat.mod_one]
theorem ASt.start (w:World) (n:Nat) (X:Nat→Rat):ASt w (w.alloc (.cells (madeCells #[Value.pointer none] n) 82)) w.heap.size n X [] where
 le:=Nat.zero_le _
 blk:=by rw [made_ptrs]; exact zay w _
 at_:=fun j hj=>by simp at hj
 below:=zaa (Below.refl _ _) _
 ge:=Nat.le_refl _
theorem all_yes (A:Option Addr) (c:Nat) (ps:List (ByteArray×ByteArray)) (X:Nat→Rat) (w:World) (hr:RowR w A ps) (hn:ps.length≤8796093022208) (hx:∀ j (h:j<ps.length),RR ps[j].1 ps[j].2 (X j)) :
  Calls Tryz.prog 119 #[.slice A ps.length c] w fun e w'=>∃ (g:Nat) (ds:List Nat),e = .returned (.slice (some ⟨g,0,none⟩) ps.length ps.length)∧ds.length=ps.length∧Hid (ASt w w' g ps.length X ds):=by
 have hmk:=zdm (P:=Tryz.prog) 120 82 (.pointer none) 8 Tryz.underlying120 infoPR rfl (by decide) ps.length (by omega)
 have HX:=Lib.hid hx
 have HR:=Lib.hid hr
 have HS0:=Lib.hid (ASt.start w ps.length X)
 clear hx hr
 go_enter Tryz.func119,Tryz.ntmps119
 go_wp2
 clear hmk
 generalize w.alloc (.cells (madeCells #[Value.pointer none] ps.length) 82)=W0 at *
 generalize hg:w.heap.size=g at HS0 ⊢
 have HG:=Lib.hid hg
 clear hg
 go_loopw [12] (fun vi wr=>∃ (i:Nat) (ds:List Nat),i≤ps.length∧vi = .int .i64 i∧Hid (ds.length=i)∧Hid (ASt w wr g ps.length X ds)) (fun vi _=>ps.length-(intOf vi).toNat)
 case atStart=>exact ⟨0,[],Nat.zero_le _,rfl,Lib.hid rfl,HS0⟩
 case round =>
  obtain ⟨i,ds,hi,rfl,HL,HS⟩:=hrel
  by_cases hin:i<ps.length
  ·obtain ⟨b,o,rfl,hlt,h1,h2⟩:=(RowR.below HR.out HS.out.below) i hin
   have hra:=fun W=>read_yes (X i) W (HX.out i hin).ln (HX.out i hin).ld
   rw [←(HX.out i hin).num,←(HX.out i hin).den] at hra
   go_wp2_with fail
   have hba:=zaa (Below.refl wr.heap.size wr) (.cells #[.string ps[i].1,.string ps[i].2] 23)
   generalize wr.alloc (.cells #[.string ps[i].1,.string ps[i].2] 23)=wa at *
   refine (hra _).mono ?_
   rintro e w1 ⟨d,rfl,hd,hx1,hb1⟩
   have hbb:=bthen hba hb1
   have HS1:=Lib.hid (HS.out.below' hbb)
   have hgl:=zas HS.out.blk
   have hsa:=hba.size
   have hge:=HS.out.ge
   have hgd:g≠d:=by omega
   have hwd:w.heap.size≤d:=by omega
   clear hbb hba hb1 h1 h2 hra hd hsa hge
   have hil:(i:Int)≤(ps.length:Int):=by omega
   have hbl:=zaa (Below.refl w1.heap.size w1) (.cells #[.pointer (some ⟨d,0,none⟩)] 82)
   have HS2:=HS1.out.below' hbl
   have hdl:=HL.out
   have hM:=HS2.more (by omega) d hwd hgd (by rw [hdl]; exact hx1.below hbl)
   have hcp:=run_copy_row (P:=Tryz.prog) (w1.alloc (.cells #[.pointer (some ⟨d,0,none⟩)] 82)) 120 120 3 82 g i (ps.length-i) (ps.length-i) ⟨w1.heap.size,0,none⟩ 1 1 (ptrs ps.length ds).toArray 82 [.pointer (some ⟨d,0,none⟩)] Tryz.underlying120 (by kernel_rfl) HS2.blk
    (by simp only [List.length_singleton]; exact (Nat.min_eq_left (by omega)).symm)
    (fun j v hj=>by
     rcases j with _|j
     ·simp only [List.getElem?_cons_zero,Option.some.injEq] at hj
      subst hj
      exact (zaf (zay w1 (.cells #[.pointer (some ⟨d,0,none⟩)] 82)) 0).trans rfl
     ·simp at hj)
    (by simp only [List.length_singleton,List.size_toArray]; rw [zcw HS2.le]; omega) (fun v hv=>by
     obtain rfl:=List.mem_singleton.1 hv
     rfl)
   simp only [List.length_singleton,List.append_assoc] at hcp
   rw [hdl] at hM
   generalize (w1.alloc (.cells #[.pointer (some ⟨d,0,none⟩)] 82)).setRow g _=w2 at hcp hM
   have HL2:=Lib.hid (show (ds ++ [d]).length=i+1 by rw [List.length_append,hdl]; rfl)
   clear hdl HS2 hbl hx1
   go_wp2
   go_roundw
   case rel=>exact ⟨i+1,ds ++ [d],by omega,by go_num,HL2,hM⟩
   case measure=>simp [intOf]; omega
  ·go_wp2
   go_ret
   exact ⟨g,ds,rfl,by have:=HL.out; omega,HS⟩
theorem all_no (A:Option Addr) (c:Nat) (ps:List (ByteArray×ByteArray)) (X:Nat→Rat) (m:Nat) (w:World) (hr:RowR w A ps) (hn:ps.length≤8796093022208) (hm:m<ps.length) (hx:∀ j (h:j<ps.length),j<m→RR ps[j].1 ps[j].2 (X j)) (hno:¬ ∃ x,RR ps[m].1 ps[m].2 x) :
  Calls Tryz.prog 119 #[.slice A ps.length c] w fun e w'=>e = .returned (.slice none 0 0)∧Below w.heap.size w w':=by
 have hmk:=zdm (P:=Tryz.prog) 120 82 (.pointer none) 8 Tryz.underlying120 infoPR rfl (by decide) ps.length (by omega)
 have HX:=Lib.hid hx
 have HNO:=fun W=>read_no _ _ W hno
 clear hno
 have HR:=Lib.hid hr
 have HS0:=Lib.hid (ASt.start w ps.length X)
 clear hx hr
 go_enter Tryz.func119,Tryz.ntmps119
 go_wp2
 clear hmk
 generalize w.alloc (.cells (madeCells #[Value.pointer none] ps.length) 82)=W0 at *
 generalize hg:w.heap.size=g at HS0 ⊢
 have HG:=Lib.hid hg
 clear hg
 go_loopw [12] (fun vi wr=>∃ (i:Nat) (ds:List Nat),i≤m∧vi = .int .i64 i∧Hid (ds.length=i)∧Hid (ASt w wr g ps.length X ds)) (fun vi _=>ps.length-(intOf vi).toNat)
 case atStart=>exact ⟨0,[],Nat.zero_le _,rfl,Lib.hid rfl,HS0⟩
 case round =>
  obtain ⟨i,ds,hi,rfl,HL,HS⟩:=hrel
  have hin:i<ps.length:=by omega
  by_cases him:i<m
  ·obtain ⟨b,o,rfl,hlt,h1,h2⟩:=(RowR.below HR.out HS.out.below) i hin
   have hra:=fun W=>read_yes (X i) W (HX.out i hin him).ln (HX.out i hin him).ld
   rw [←(HX.out i hin him).num,←(HX.out i hin him).den] at hra
   go_wp2_with fail
   have hba:=zaa (Below.refl wr.heap.size wr) (.cells #[.string ps[i].1,.string ps[i].2] 23)
   generalize wr.alloc (.cells #[.string ps[i].1,.string ps[i].2] 23)=wa at *
   refine (hra _).mono ?_
   rintro e w1 ⟨d,rfl,hd,hx1,hb1⟩
   have hbb:=bthen hba hb1
   have HS1:=Lib.hid (HS.out.below' hbb)
   have hgl:=zas HS.out.blk
   have hsa:=hba.size
   have hge:=HS.out.ge
   have hgd:g≠d:=by omega
   have hwd:w.heap.size≤d:=by omega
   clear hbb hba hb1 h1 h2 hra hd hsa hge
   have hil:(i:Int)≤(ps.length:Int):=by omega
   have hbl:=zaa (Below.refl w1.heap.size w1) (.cells #[.pointer (some ⟨d,0,none⟩)] 82)
   have HS2:=HS1.out.below' hbl
   have hdl:=HL.out
   have hM:=HS2.more (by omega) d hwd hgd (by rw [hdl]; exact hx1.below hbl)
   have hcp:=run_copy_row (P:=Tryz.prog) (w1.alloc (.cells #[.pointer (some ⟨d,0,none⟩)] 82)) 120 120 3 82 g i (ps.length-i) (ps.length-i) ⟨w1.heap.size,0,none⟩ 1 1 (ptrs ps.length ds).toArray 82 [.pointer (some ⟨d,0,none⟩)] Tryz.underlying120 (by kernel_rfl) HS2.blk
    (by simp only [List.length_singleton]; exact (Nat.min_eq_left (by omega)).symm)
    (fun j v hj=>by
     rcases j with _|j
     ·simp only [List.getElem?_cons_zero,Option.some.injEq] at hj
      subst hj
      exact (zaf (zay w1 (.cells #[.pointer (some ⟨d,0,none⟩)] 82)) 0).trans rfl
     ·simp at hj)
    (by simp only [List.length_singleton,List.size_toArray]; rw [zcw HS2.le]; omega) (fun v hv=>by
     obtain rfl:=List.mem_singleton.1 hv
     rfl)
   simp only [List.length_singleton,List.append_assoc] at hcp
   rw [hdl] at hM
   generalize (w1.alloc (.cells #[.pointer (some ⟨d,0,none⟩)] 82)).setRow g _=w2 at hcp hM
   have HL2:=Lib.hid (show (ds ++ [d]).length=i+1 by rw [List.length_append,hdl]; rfl)
   clear hdl HS2 hbl hx1
   go_wp2
   go_roundw
   case rel=>exact ⟨i+1,ds ++ [d],by omega,by go_num,HL2,hM⟩
   case measure=>simp [intOf]; omega
  ·obtain rfl:i=m:=by omega
   obtain ⟨b,o,rfl,hlt,h1,h2⟩:=(RowR.below HR.out HS.out.below) i hin
   go_wp2_with fail
   have hba:=zaa (Below.refl wr.heap.size wr) (.cells #[.string ps[i].1,.string ps[i].2] 23)
   generalize wr.alloc (.cells #[.string ps[i].1,.string ps[i].2] 23)=wa at *
   refine (HNO _).mono ?_
   rintro e w1 ⟨rfl,hb1⟩
   have hB:=bthen HS.out.below (bthen hba hb1)
   clear h1 h2 hba hb1
   go_wp2
   go_ret
   exact ⟨rfl,hB⟩
theorem rr_all (ps:List (ByteArray×ByteArray)):∃ X:Nat→Rat,(∀ j (h:j<ps.length),RR ps[j].1 ps[j].2 (X j))∨∃ m,∃ hm:m<ps.length,(∀ j (h:j<ps.length),j<m→RR ps[j].1 ps[j].2 (X j))∧¬ ∃ x,RR ps[m].1 ps[m].2 x:=by
 classical
 refine ⟨fun j=>if h:∃ x,∃ h:j<ps.length,RR ps[j].1 ps[j].2 x then h.choose else 0,?_⟩
 have hX:∀ j (h:j<ps.length),(∃ x,RR ps[j].1 ps[j].2 x)→RR ps[j].1 ps[j].2 (if h:∃ x,∃ h:j<ps.length,RR ps[j].1 ps[j].2 x then h.choose else 0):=fun j h ⟨x,hx⟩=>by
  have he:∃ x,∃ h:j<ps.length,RR ps[j].1 ps[j].2 x:=⟨x,h,hx⟩
  rw [dif_pos he]
  exact he.choose_spec.2
 by_cases hall:∀ j (h:j<ps.length),∃ x,RR ps[j].1 ps[j].2 x
 ·exact Or.inl fun j h=>hX j h (hall j h)
 ·right
  have hex:∃ m,∃ hm:m<ps.length,¬ ∃ x,RR ps[m].1 ps[m].2 x:=by
   apply Classical.byContradiction
   intro hn
   apply hall
   intro j h
   apply Classical.byContradiction
   intro hj
   exact hn ⟨j,h,hj⟩
  have hmin:∀ n,(∃ m,m≤n∧∃ hm:m<ps.length,¬ ∃ x,RR ps[m].1 ps[m].2 x)→∃ m,∃ hm:m<ps.length,(∀ j (h:j<ps.length),j<m→∃ x,RR ps[j].1 ps[j].2 x)∧¬ ∃ x,RR ps[m].1 ps[m].2 x:=by
   intro n
   induction n with
   | zero =>
    rintro ⟨m,hm0,hm,hno⟩
    exact ⟨m,hm,fun j _ hj=>by omega,hno⟩
   | succ n ih =>
    rintro ⟨m,hm0,hm,hno⟩
    by_cases hl:∃ m,m≤n∧∃ hm:m<ps.length,¬ ∃ x,RR ps[m].1 ps[m].2 x
    ·exact ih hl
    ·refine ⟨m,hm,fun j h hj => ?_,hno⟩
     apply Classical.byContradiction
     intro hj2
     exact hl ⟨j,by omega,h,hj2⟩
  obtain ⟨m0,h0⟩:=hex
  obtain ⟨m,hm,h1,h2⟩:=hmin m0 ⟨m0,Nat.le_refl _,h0⟩
  exact ⟨m,hm,fun j h hj=>hX j h (h1 j h hj),h2⟩
theorem row2 (W:World) (a0 a1 b0 b1:ByteArray):RowR (W.alloc (.cells #[.string a0,.string a1,.string b0,.string b1] 23)) (some ⟨W.heap.size,0,none⟩) [(a0,a1),(b0,b1)]:=fun j hj=>by
 have hb:=zay W (.cells #[.string a0,.string a1,.string b0,.string b1] 23)
 refine ⟨W.heap.size,0,rfl,zas hb,?_⟩
 rcases j with _|_|j
 ·exact ⟨(zaf hb 0).trans rfl,(zaf hb 1).trans rfl⟩
 ·exact ⟨(zaf hb 2).trans rfl,(zaf hb 3).trans rfl⟩
 ·simp at hj; omega
theorem two_start (w:World) (a0 a1 b0 b1:ByteArray):RowR ((((w.alloc (.cells #[.string a0,.string a1] 23)).alloc (.cells #[.string b0,.string b1] 23)).alloc (.cells #[.string ⟨#[]⟩,.string ⟨#[]⟩] 23)).alloc (.cells #[.string a0,.string a1,.string b0,.string b1] 23)) (some ⟨w.heap.size+1+1+1,0,none⟩) [(a0,a1),(b0,b1)] ∧
  ((((w.alloc (.cells #[.string a0,.string a1] 23)).alloc (.cells #[.string b0,.string b1] 23)).alloc (.cells #[.string ⟨#[]⟩,.string ⟨#[]⟩] 23)).alloc (.cells #[.string a0,.string a1,.string b0,.string b1] 23)).heap[w.heap.size+1+1]? = some (.cells #[.string ⟨#[]⟩,.string ⟨#[]⟩] 23 (0,0))∧Below w.heap.size w ((((w.alloc (.cells #[.string a0,.string a1] 23)).alloc (.cells #[.string b0,.string b1] 23)).alloc (.cells #[.string ⟨#[]⟩,.string ⟨#[]⟩] 23)).alloc (.cells #[.string a0,.string a1,.string b0,.string b1] 23)):=by
 have h1:=row2 (((w.alloc (.cells #[.string a0,.string a1] 23)).alloc (.cells #[.string b0,.string b1] 23)).alloc (.cells #[.string ⟨#[]⟩,.string ⟨#[]⟩] 23)) a0 a1 b0 b1
 have h2:=zay ((w.alloc (.cells #[.string a0,.string a1] 23)).alloc (.cells #[.string b0,.string b1] 23)) (.cells #[.string ⟨#[]⟩,.string ⟨#[]⟩] 23)
 have h3:=bthen (zaa (Below.refl w.heap.size w) (.cells #[.string a0,.string a1] 23)) (zaa (Below.refl _ _) (.cells #[.string b0,.string b1] 23))
 have h4:=zaa (Below.refl (((w.alloc (.cells #[.string a0,.string a1] 23)).alloc (.cells #[.string b0,.string b1] 23)).alloc (.cells #[.string ⟨#[]⟩,.string ⟨#[]⟩] 23)).heap.size (((w.alloc (.cells #[.string a0,.string a1] 23)).alloc (.cells #[.string b0,.string b1] 23)).alloc (.cells #[.string ⟨#[]⟩,.string ⟨#[]⟩] 23))) (.cells #[.string a0,.string a1,.string b0,.string b1] 23)
 simp only [World.size_alloc] at h1 h2
 refine ⟨h1,?_,bthen h3 (bthen (zaa (Below.refl _ _) _) h4)⟩
 rw [h4.block _ (by simp only [World.size_alloc]; omega)]
 exact h2
theorem two_no (a0 a1 b0 b1:ByteArray) (K:Nat) (caps:Array Value) (w:World) (h:¬ ((∃ x,RR a0 a1 x)∧∃ y,RR b0 b1 y)) :
  Calls Tryz.prog 121 #[.agg #[.string a0,.string a1],.agg #[.string b0,.string b1],.func (.func K) #[] caps] w fun e w'=>e = .returned (.tuple #[.agg #[.string ⟨#[]⟩,.string ⟨#[]⟩],.int .i64 3])∧Below w.heap.size w w':=by
 have HA:∀ (A:Option Addr) (c:Nat) (W:World),RowR W A [(a0,a1),(b0,b1)]→Calls Tryz.prog 119 #[.slice A 2 c] W fun e w'=>e = .returned (.slice none 0 0)∧Below W.heap.size W w':=fun A c W hr=>by
  obtain ⟨X,hX|⟨m,hm,h1,h2⟩⟩:=rr_all [(a0,a1),(b0,b1)]
  ·exact absurd ⟨⟨_,hX 0 (by simp)⟩,⟨_,hX 1 (by simp)⟩⟩ h
  ·exact all_no A c [(a0,a1),(b0,b1)] X m W hr (by simp) hm h1 h2
 clear h
 go_enter Tryz.func121,Tryz.ntmps121
 obtain ⟨hrow,hbk,hba⟩:=two_start w a0 a1 b0 b1
 have hnil:=fun (W:World) (a:Option Addr) (n c:Nat)=>Lib.run_eql_slice_nil (P:=Tryz.prog) W 120 82 a n c 0 0 Tryz.underlying120
 go_wp2_with fail
 generalize ((((w.alloc (.cells #[.string a0,.string a1] 23)).alloc (.cells #[.string b0,.string b1] 23)).alloc (.cells #[.string ⟨#[]⟩,.string ⟨#[]⟩] 23)).alloc (.cells #[.string a0,.string a1,.string b0,.string b1] 23))=W0 at *
 generalize w.heap.size+1+1+1=L at *
 generalize hBe:w.heap.size+1+1=B0 at *
 have HBE:=Lib.hid (show w.heap.size≤B0 by omega)
 clear hBe
 refine (HA _ _ _ hrow).mono ?_
 rintro e w1 ⟨rfl,hb1⟩
 have hbk2:=(hb1.block _ (zas hbk)).trans hbk
 have hB2:=bthen hba hb1
 have cB0:=(zaf hbk2 0).trans (show _=some (Value.string ⟨#[]⟩) from rfl)
 have cB1:=(zaf hbk2 1).trans (show _=some (Value.string ⟨#[]⟩) from rfl)
 have fB0:=zad hbk2 0
 have fB1:=zad hbk2 1
 have hs1:=zau hbk2 0 (.string ⟨#[]⟩)
 have hs2:=zau hs1 1 (.string ⟨#[]⟩)
 have HS2:=Lib.hid (hs2.trans (show _=some (Obj.cells #[.string ⟨#[]⟩,.string ⟨#[]⟩] 23 (0,0)) from rfl))
 have HBF:=Lib.hid (zag (zag (g:=B0) (j:=0) (v:=.string ⟨#[]⟩) hB2 HBE.out) (j:=1) (v:=.string ⟨#[]⟩) (g:=B0) HBE.out)
 clear hs1 hs2 hbk hbk2 hrow
 go_wp2
 refine bodyPost_ret (zaM rfl _ _ B0 23 #[.string ⟨#[]⟩,.string ⟨#[]⟩] (0,0) _ rfl HS2.out Tryz.underlying23 rfl (by kernel_rfl)) rfl ?_
 exact ⟨rfl,HBF.out⟩
theorem Upd.keepB {w w':World} {b lo hi:Nat} (h:Upd w w' b lo hi):KeepB w w' b:=⟨h.os,h.tape,h.output,h.size,h.other⟩
def TwoDo (K:Nat) (caps:Array Value) (w:World) (x y:Rat) (why:Int) (r:Rat):Prop:=
 ∀ (W:World) (z gx gy:Nat),Below w.heap.size w W→w.heap.size≤z→w.heap.size≤gx→w.heap.size≤gy→z≠gx→z≠gy→RatAt W z 0→RatAt W gx x→RatAt W gy y →
  Calls Tryz.prog K (#[.pointer (some ⟨z,0,none⟩),.pointer (some ⟨gx,0,none⟩),.pointer (some ⟨gy,0,none⟩)]++caps) W fun e w'=>e = .returned (.int .i64 why)∧(why=0→RatAt w' z r)∧KeepB W w' z
theorem two_yes (a0 a1 b0 b1:ByteArray) (x y:Rat) (K:Nat) (caps:Array Value) (why:Int) (r:Rat) {n:Nat} (w:World) (hE:Enters Tryz.prog K) (hx:RR a0 a1 x) (hy:RR b0 b1 y) (hd:TwoDo K caps w x y why r) (hs:why=0→Bdr n r) (hn:n≤big) :
  Calls Tryz.prog 121 #[.agg #[.string a0,.string a1],.agg #[.string b0,.string b1],.func (.func K) #[] caps] w fun e w'=>e = .returned (.tuple #[.agg #[.string (if why=0 then toldR r else (⟨#[]⟩,⟨#[]⟩,why)).1,.string (if why=0 then toldR r else (⟨#[]⟩,⟨#[]⟩,why)).2.1],.int .i64 (if why=0 then toldR r else (⟨#[]⟩,⟨#[]⟩,why)).2.2])∧Below w.heap.size w w':=by
 have HA:∀ (A:Option Addr) (c:Nat) (W:World),RowR W A [(a0,a1),(b0,b1)]→Calls Tryz.prog 119 #[.slice A 2 c] W fun e w'=>∃ (g:Nat) (ds:List Nat),e = .returned (.slice (some ⟨g,0,none⟩) 2 2)∧ds.length=2∧Hid (ASt W w' g 2 (fun j=>if j=0 then x else y) ds):=fun A c W hr=>by
  exact all_yes A c [(a0,a1),(b0,b1)] (fun j=>if j=0 then x else y) W hr (by simp) (fun j hj=>by
   rcases j with _|_|j
   ·exact hx
   ·exact hy
   ·simp at hj; omega)
 have HD:=Lib.hid hd
 have HE:=Lib.hid hE
 clear hx hy hd hE
 go_enter Tryz.func121,Tryz.ntmps121
 obtain ⟨hrow,hbk,hba⟩:=two_start w a0 a1 b0 b1
 have hnil:=fun (W:World) (a:Option Addr) (n c:Nat)=>Lib.run_eql_slice_nil (P:=Tryz.prog) W 120 82 a n c 0 0 Tryz.underlying120
 go_wp2_with fail
 generalize ((((w.alloc (.cells #[.string a0,.string a1] 23)).alloc (.cells #[.string b0,.string b1] 23)).alloc (.cells #[.string ⟨#[]⟩,.string ⟨#[]⟩] 23)).alloc (.cells #[.string a0,.string a1,.string b0,.string b1] 23))=W0 at *
 generalize w.heap.size+1+1+1=L at *
 generalize hBe:w.heap.size+1+1=B0 at *
 have HBE:=Lib.hid (show w.heap.size≤B0 by omega)
 clear hBe
 refine (HA _ _ _ hrow).mono ?_
 rintro e w1 ⟨g,ds,rfl,hdl,HS⟩
 obtain ⟨d0,d1,rfl⟩:∃ d0 d1,ds = [d0,d1]:=by
  rcases ds with _|⟨d0,_|⟨d1,_|⟨d2,t⟩⟩⟩
  ·simp at hdl
  ·simp at hdl
  ·exact ⟨d0,d1,rfl⟩
  ·simp at hdl
 obtain ⟨p1,p2,p3⟩:=HS.out.at_ 0 (by simp)
 obtain ⟨q1,q2,q3⟩:=HS.out.at_ 1 (by simp)
 simp only [List.getElem_cons_zero,List.getElem_cons_succ,if_true,if_false,Nat.one_ne_zero] at p1 p2 p3 q1 q2 q3
 have hblk:=HS.out.blk
 have hB1:=HS.out.below
 have hbk1:=(hB1.block _ (zas hbk)).trans hbk
 have hBw:=bthen hba hB1
 have hsz0:=hba.size
 have hBz:B0<w1.heap.size:=Nat.lt_of_lt_of_le (zas hbk) hB1.size
 have hlx:=p3.lt
 have hly:=q3.lt
 have hnew:=RatAt.new w1 112 (by decide)
 have hbz:=zaa (Below.refl w1.heap.size w1) (.cells #[.bool false,.slice none 0 0,.bool false,.slice none 0 0] 112)
 have hsz1:=hBw.size
 have hx2:=p3.below hbz
 have hy2:=q3.below hbz
 have hB2:=bthen hBw hbz
 have c0:=(zaf ((hbz.block _ (zas hblk)).trans hblk) 0).trans (show _=some (Value.pointer (some ⟨d0,0,none⟩)) from rfl)
 have c1:=(zaf ((hbz.block _ (zas hblk)).trans hblk) 1).trans (show _=some (Value.pointer (some ⟨d1,0,none⟩)) from rfl)
 have hbk2:=(hbz.block _ (zas hbk1)).trans hbk1
 clear hdl hrow hba hB1 hblk p3 q3 hBw hbk hbk1 hbz
 have hz0:w.heap.size≤w1.heap.size:=hsz1
 go_wp2_with fail
 generalize w1.alloc (.cells #[.bool false,.slice none 0 0,.bool false,.slice none 0 0] 112)=w2 at *
 generalize w1.heap.size=z at *
 go_still_tail 8,(by kernel_rfl)
 change wpList _ _ _ _ _ w2.drew
 have hbd:=zae w2
 have hx3:=hx2.below hbd
 have hy3:=hy2.below hbd
 have hB3:=bthen hB2 hbd
 have hz3:=hnew.below hbd
 have hbk3:=(hbd.block _ (zas hbk2)).trans hbk2
 clear hnew hx2 hy2 hB2 hbk2 hbd c0 c1
 generalize w2.drew=w3 at *
 have hE:=HE.out
 unfold Enters at hE
 go_wp2_with fail
 clear hE HE HA hnil
 have hz00:w.heap.size≤z:=hz0
 refine (HD.out _ _ _ _ hB3 (by omega) (by omega) (by omega) (by omega) (by omega) hz3 hx3 hy3).mono ?_
 rintro e w4 ⟨rfl,hz4,hk4⟩
 have hbk4:=(hk4.other _ (zas hbk3) (by omega)).trans hbk3
 have hB4:=KeepB.below hB3 hk4 hz00
 clear hk4 hz3 hx3 hy3 hB3 hbk3
 by_cases hw:why=0
 ·subst hw
  have hz5:=hz4 rfl
  have HBR:=Lib.hid (hs rfl)
  clear hz4 hs HD
  go_wp2_with fail
  refine (zcl z r _ hz5 HBR.out hn).mono ?_
  rintro e w5 ⟨rfl,hb5⟩
  have hbk5:=(hb5.block _ (zas hbk4)).trans hbk4
  have hB5:=bthen hB4 hb5
  generalize htt:toldR r=tt
  have HTT:=Lib.hid htt
  clear htt
  have cB0:=(zaf hbk5 0).trans (show _=some (Value.string ⟨#[]⟩) from rfl)
  have cB1:=(zaf hbk5 1).trans (show _=some (Value.string ⟨#[]⟩) from rfl)
  have fB0:=zad hbk5 0
  have fB1:=zad hbk5 1
  have hs1:=zau hbk5 0 (.string tt.1)
  have hs2:=zau hs1 1 (.string tt.2.1)
  have HS2:=Lib.hid (hs2.trans (show _=some (Obj.cells #[.string tt.1,.string tt.2.1] 23 (0,0)) from rfl))
  have HBF:=Lib.hid (zag (zag (g:=B0) (j:=0) (v:=.string tt.1) hB5 HBE.out) (j:=1) (v:=.string tt.2.1) (g:=B0) HBE.out)
  clear hs1 hs2 hbk4 hbk5 hB4 hb5 hz5
  go_wp2
  refine bodyPost_ret (zaM rfl _ _ B0 23 #[.string tt.1,.string tt.2.1] (0,0) _ rfl HS2.out Tryz.underlying23 rfl (by kernel_rfl)) rfl ?_
  exact ⟨by first|(rw [HTT.out]; rfl)|(rw [if_pos rfl,HTT.out]; rfl),HBF.out⟩
 ·have HW:=Lib.hid hw
  have hne:(why == 0)=false:=beq_eq_false_iff_ne.2 hw
  clear hz4 hs HD
  have cB0:=(zaf hbk4 0).trans (show _=some (Value.string ⟨#[]⟩) from rfl)
  have cB1:=(zaf hbk4 1).trans (show _=some (Value.string ⟨#[]⟩) from rfl)
  have fB0:=zad hbk4 0
  have fB1:=zad hbk4 1
  have hs1:=zau hbk4 0 (.string ⟨#[]⟩)
  have hs2:=zau hs1 1 (.string ⟨#[]⟩)
  have HS2:=Lib.hid (hs2.trans (show _=some (Obj.cells #[.string ⟨#[]⟩,.string ⟨#[]⟩] 23 (0,0)) from rfl))
  have HBF:=Lib.hid (zag (zag (g:=B0) (j:=0) (v:=.string ⟨#[]⟩) hB4 HBE.out) (j:=1) (v:=.string ⟨#[]⟩) (g:=B0) HBE.out)
  clear hs1 hs2 hbk4
  go_wp2
  refine bodyPost_ret (zaM rfl _ _ B0 23 #[.string ⟨#[]⟩,.string ⟨#[]⟩] (0,0) _ rfl HS2.out Tryz.underlying23 rfl (by kernel_rfl)) rfl ?_
  exact ⟨by first|rfl|(simp only [if_neg HW.out]; rfl),HBF.out⟩
def OneDo (K:Nat) (caps:Array Value) (w:World) (x:Rat) (why:Int) (r:Rat):Prop:=
 ∀ (W:World) (z gx:Nat),Below w.heap.size w W→w.heap.size≤z→w.heap.size≤gx→z≠gx→RatAt W z 0→RatAt W gx x →
  Calls Tryz.prog K (#[.pointer (some ⟨z,0,none⟩),.pointer (some ⟨gx,0,none⟩)]++caps) W fun e w'=>e = .returned (.int .i64 why)∧(why=0→RatAt w' z r)∧KeepB W w' z
theorem OneDo.mono {K:Nat} {caps:Array Value} {w w2:World} {x:Rat} {why:Int} {r:Rat} (h:OneDo K caps w x why r) (hb:Below w.heap.size w w2):OneDo K caps w2 x why r:=fun W z gx h1 h2 h3 h4 h5 h6 =>
 h W z gx (bthen hb h1) (Nat.le_trans hb.size h2) (Nat.le_trans hb.size h3) h4 h5 h6
theorem one_do (K:Nat) (caps:Array Value) (B:Nat) (w:World) (x y:Rat) (why:Int) (r:Rat) (hE:Enters Tryz.prog K) (hB:w.heap[B]? = some (.cells #[.func (.func K) #[] caps] 131 (0,0))) (hd:OneDo K caps w x why r) :
  TwoDo 210 #[.pointer (some ⟨B,0,none⟩)] w x y why r:=fun W z gx gy hb hz hx hy hzx hzy rz rx ry=>by
 have hbk:=(hb.block _ (zas hB)).trans hB
 have c0:=(zaf hbk 0).trans (show _=some (Value.func (.func K) #[] caps) from rfl)
 have HD:=Lib.hid (hd W z gx hb hz hx hzx rz rx)
 unfold Enters at hE
 clear hd hB hbk ry hb
 show Calls Tryz.prog 210 #[.pointer (some ⟨z,0,none⟩),.pointer (some ⟨gx,0,none⟩),.pointer (some ⟨gy,0,none⟩),.pointer (some ⟨B,0,none⟩)] W _
 go_enter Tryz.func210,Tryz.ntmps210
 go_wp2_with fail
 refine HD.out.mono ?_
 rintro e w4 ⟨rfl,hz4,hk4⟩
 have HZ:=Lib.hid hz4
 clear hz4 hE
 go_wp2
 go_ret
 exact ⟨rfl,HZ.out,hk4⟩
theorem one_start (w:World) (a0 a1:ByteArray) (K:Nat) (caps:Array Value):(((w.alloc (.cells #[.string a0,.string a1] 23)).alloc (.cells #[.func (.func K) #[] caps] 131)).alloc (.cells #[.string ⟨#[]⟩,.string ⟨#[]⟩] 23)).heap[w.heap.size+1]? = some (.cells #[.func (.func K) #[] caps] 131 (0,0)) ∧
  (((w.alloc (.cells #[.string a0,.string a1] 23)).alloc (.cells #[.func (.func K) #[] caps] 131)).alloc (.cells #[.string ⟨#[]⟩,.string ⟨#[]⟩] 23)).heap[w.heap.size+1+1]? = some (.cells #[.string ⟨#[]⟩,.string ⟨#[]⟩] 23 (0,0))∧Below w.heap.size w (((w.alloc (.cells #[.string a0,.string a1] 23)).alloc (.cells #[.func (.func K) #[] caps] 131)).alloc (.cells #[.string ⟨#[]⟩,.string ⟨#[]⟩] 23)):=by
 have h1:=zay (w.alloc (.cells #[.string a0,.string a1] 23)) (.cells #[.func (.func K) #[] caps] 131)
 have h2:=zay ((w.alloc (.cells #[.string a0,.string a1] 23)).alloc (.cells #[.func (.func K) #[] caps] 131)) (.cells #[.string ⟨#[]⟩,.string ⟨#[]⟩] 23)
 have h3:=bthen (zaa (Below.refl w.heap.size w) (.cells #[.string a0,.string a1] 23)) (zaa (Below.refl _ _) (.cells #[.func (.func K) #[] caps] 131))
 have h4:=zaa (Below.refl ((w.alloc (.cells #[.string a0,.string a1] 23)).alloc (.cells #[.func (.func K) #[] caps] 131)).heap.size ((w.alloc (.cells #[.string a0,.string a1] 23)).alloc (.cells #[.func (.func K) #[] caps] 131))) (.cells #[.string ⟨#[]⟩,.string ⟨#[]⟩] 23)
 simp only [World.size_alloc] at h1 h2
 refine ⟨?_,h2,bthen h3 h4⟩
 rw [h4.block _ (by simp only [World.size_alloc]; omega)]
 exact h1
theorem one_walk (a0 a1:ByteArray) (K:Nat) (caps:Array Value) (w:World) (tt:ByteArray×ByteArray×Int)
  (hd:∀ (W:World) (B:Nat),Below w.heap.size w W→W.heap[B]? = some (.cells #[.func (.func K) #[] caps] 131 (0,0)) →
   Calls Tryz.prog 121 #[.agg #[.string a0,.string a1],.agg #[.string a0,.string a1],.func (.func 210) #[] #[.pointer (some ⟨B,0,none⟩)]] W fun e w'=>e = .returned (.tuple #[.agg #[.string tt.1,.string tt.2.1],.int .i64 tt.2.2])∧Below W.heap.size W w') :
  Calls Tryz.prog 132 #[.agg #[.string a0,.string a1],.func (.func K) #[] caps] w fun e w'=>e = .returned (.tuple #[.agg #[.string tt.1,.string tt.2.1],.int .i64 tt.2.2])∧Below w.heap.size w w':=by
 have HD:=Lib.hid hd
 clear hd
 go_enter Tryz.func132,Tryz.ntmps132
 obtain ⟨hbx,hbk,hba⟩:=one_start w a0 a1 K caps
 go_wp2_with fail
 generalize (((w.alloc (.cells #[.string a0,.string a1] 23)).alloc (.cells #[.func (.func K) #[] caps] 131)).alloc (.cells #[.string ⟨#[]⟩,.string ⟨#[]⟩] 23))=W0 at *
 generalize hBx:w.heap.size+1=X0 at *
 generalize hBe:X0+1=B0 at *
 have HBE:=Lib.hid (show w.heap.size≤B0 by omega)
 clear hBe hBx
 refine (HD.out _ _ hba hbx).mono ?_
 rintro e w1 ⟨rfl,hb1⟩
 have hbk5:=(hb1.block _ (zas hbk)).trans hbk
 have hB5:=bthen hba hb1
 have cB0:=(zaf hbk5 0).trans (show _=some (Value.string ⟨#[]⟩) from rfl)
 have cB1:=(zaf hbk5 1).trans (show _=some (Value.string ⟨#[]⟩) from rfl)
 have fB0:=zad hbk5 0
 have fB1:=zad hbk5 1
 have hs1:=zau hbk5 0 (.string tt.1)
 have hs2:=zau hs1 1 (.string tt.2.1)
 have HS2:=Lib.hid (hs2.trans (show _=some (Obj.cells #[.string tt.1,.string tt.2.1] 23 (0,0)) from rfl))
 have HBF:=Lib.hid (zag (zag (g:=B0) (j:=0) (v:=.string tt.1) hB5 HBE.out) (j:=1) (v:=.string tt.2.1) (g:=B0) HBE.out)
 clear hs1 hs2 hbk hbk5 hbx hba hb1 HD
 go_wp2
 refine bodyPost_ret (zaM rfl _ _ B0 23 #[.string tt.1,.string tt.2.1] (0,0) _ rfl HS2.out Tryz.underlying23 rfl (by kernel_rfl)) rfl ?_
 exact ⟨rfl,HBF.out⟩
noncomputable def tell (why:Int) (r:Rat):ByteArray×ByteArray×Int:=if why=0 then toldR r else (⟨#[]⟩,⟨#[]⟩,why)
theorem one_no (a0 a1:ByteArray) (K:Nat) (caps:Array Value) (w:World) (h:¬ ∃ x,RR a0 a1 x) :
  Calls Tryz.prog 132 #[.agg #[.string a0,.string a1],.func (.func K) #[] caps] w fun e w'=>e = .returned (.tuple #[.agg #[.string ⟨#[]⟩,.string ⟨#[]⟩],.int .i64 3])∧Below w.heap.size w w':=
 one_walk a0 a1 K caps w (⟨#[]⟩,⟨#[]⟩,3) fun W B hb hB=>two_no a0 a1 a0 a1 210 #[.pointer (some ⟨B,0,none⟩)] W (fun hh=>h hh.1)
theorem one_yes (a0 a1:ByteArray) (x:Rat) (K:Nat) (caps:Array Value) (why:Int) (r:Rat) {n:Nat} (w:World) (hE:Enters Tryz.prog K) (hx:RR a0 a1 x) (hd:OneDo K caps w x why r) (hs:why=0→Bdr n r) (hn:n≤big) :
  Calls Tryz.prog 132 #[.agg #[.string a0,.string a1],.func (.func K) #[] caps] w fun e w'=>e = .returned (.tuple #[.agg #[.string (tell why r).1,.string (tell why r).2.1],.int .i64 (tell why r).2.2])∧Below w.heap.size w w':=
 one_walk a0 a1 K caps w (tell why r) fun W B hb hB=>two_yes a0 a1 a0 a1 x x 210 #[.pointer (some ⟨B,0,none⟩)] why r W (enters_of Tryz.func210 (by kernel_rfl) rfl) hx hx (one_do K caps B W x x why r hE hB (hd.mono hb)) hs hn
end Go.Proofs.ZP
end
section
namespace Go.Proofs.ZQ
open Go.RowKit Go.Proofs.ZW.Wa Go.Proofs.ZP
theorem rr_one {a b:ByteArray} {x y:Rat} (h:RR a b x) (k:RR a b y):x=y:=Rat.ext (wtext_inj (h.num.symm.trans k.num)) (T_inj (h.den.symm.trans k.den))
noncomputable def twoF (why:Rat→Rat→Int) (op:Rat→Rat→Rat) (a0 a1 b0 b1:ByteArray):Option (ByteArray×ByteArray×Int):=by
 classical exact if h:(∃ x,RR a0 a1 x)∧∃ y,RR b0 b1 y then some (tell (why h.1.choose h.2.choose) (op h.1.choose h.2.choose)) else some (⟨#[]⟩,⟨#[]⟩,3)
noncomputable def oneF (why:Rat→Int) (op:Rat→Rat) (a0 a1:ByteArray):Option (ByteArray×ByteArray×Int):=by
 classical exact if h:∃ x,RR a0 a1 x then some (tell (why h.choose) (op h.choose)) else some (⟨#[]⟩,⟨#[]⟩,3)
theorem zdr {why:Rat→Int} {op:Rat→Rat} {a0 a1:ByteArray} {x:Rat} (hx:RR a0 a1 x):oneF why op a0 a1=some (tell (why x) (op x)):=by
 have h:∃ x,RR a0 a1 x:=⟨x,hx⟩
 unfold oneF
 rw [dif_pos h,←rr_one hx h.choose_spec]
theorem oneF_no {why:Rat→Int} {op:Rat→Rat} {a0 a1:ByteArray} (h:¬ ∃ x,RR a0 a1 x):oneF why op a0 a1=some (⟨#[]⟩,⟨#[]⟩,3):=by
 unfold oneF
 rw [dif_neg h]
def Says (f:FuncId) (args:Array Value) (w:World) (tt:ByteArray×ByteArray×Int):Prop:=
 Calls Tryz.prog f args w fun e w'=>e = .returned (.tuple #[.agg #[.string tt.1,.string tt.2.1],.int .i64 tt.2.2])∧Below w.heap.size w w'
theorem start1 (w:World) (a0 a1:ByteArray):((w.alloc (.cells #[.string a0,.string a1] 23)).alloc (.cells #[.string ⟨#[]⟩,.string ⟨#[]⟩] 23)).heap[w.heap.size+1]? = some (.cells #[.string ⟨#[]⟩,.string ⟨#[]⟩] 23 (0,0)) ∧
  Below w.heap.size w ((w.alloc (.cells #[.string a0,.string a1] 23)).alloc (.cells #[.string ⟨#[]⟩,.string ⟨#[]⟩] 23)):=by
 refine ⟨?_,zaa (zaa (Below.refl _ _) _) _⟩
 have:=zay (w.alloc (.cells #[.string a0,.string a1] 23)) (.cells #[.string ⟨#[]⟩,.string ⟨#[]⟩] 23)
 simp only [World.size_alloc] at this
 exact this
noncomputable def rat_Add.f (a0_0 a0_1 a1_0 a1_1:ByteArray):Option (ByteArray×ByteArray×Int):=twoF (fun x y=>0) (fun x y=>x+y) a0_0 a0_1 a1_0 a1_1
noncomputable def rat_Sub.f (a0_0 a0_1 a1_0 a1_1:ByteArray):Option (ByteArray×ByteArray×Int):=twoF (fun x y=>0) (fun x y=>x-y) a0_0 a0_1 a1_0 a1_1
noncomputable def rat_Mul.f (a0_0 a0_1 a1_0 a1_1:ByteArray):Option (ByteArray×ByteArray×Int):=twoF (fun x y=>0) (fun x y=>x*y) a0_0 a0_1 a1_0 a1_1
noncomputable def rat_Neg.f (a0_0 a0_1:ByteArray):Option (ByteArray×ByteArray×Int):=oneF (fun x=>0) (fun x => -x) a0_0 a0_1
noncomputable def rat_Quo.f (a0_0 a0_1 a1_0 a1_1:ByteArray):Option (ByteArray×ByteArray×Int):=twoF (fun x y=>if y=0 then 8 else 0) (fun x y=>x/y) a0_0 a0_1 a1_0 a1_1
noncomputable def rat_Inv.f (a0_0 a0_1:ByteArray):Option (ByteArray×ByteArray×Int):=oneF (fun x=>if x=0 then 8 else 0) (fun x=>x⁻¹) a0_0 a0_1
end Go.Proofs.ZQ
end
section
namespace Go.Proofs.ZQ
open Go.RowKit Go.Proofs.ZW.Wa Go.Proofs.ZP Go.Proofs.ZW.Wb Go.Proofs.ZW.Wc
def FrAt (w:World) (b:Nat) (s:Bool) (x y:ByteArray):Prop:=w.heap[b]? = some (.cells #[.bool s,.string x,.string y] 66 (0,0))
theorem FrAt.c0 {w:World} {b:Nat} {s:Bool} {x y:ByteArray} (h:FrAt w b s x y):w.cell? ⟨b,0,none⟩=some (.bool s):=(zaf h 0).trans rfl
theorem FrAt.c1 {w:World} {b:Nat} {s:Bool} {x y:ByteArray} (h:FrAt w b s x y):w.cell? ⟨b,1,none⟩=some (.string x):=(zaf h 1).trans rfl
theorem FrAt.c2 {w:World} {b:Nat} {s:Bool} {x y:ByteArray} (h:FrAt w b s x y):w.cell? ⟨b,2,none⟩=some (.string y):=(zaf h 2).trans rfl
theorem FrAt.below {w w':World} {b:Nat} {s:Bool} {x y:ByteArray} (h:FrAt w b s x y) (hb:Below w.heap.size w w'):FrAt w' b s x y:=(hb.block _ (zas h)).trans h
theorem FrAt.keep {w w':World} {b n:Nat} {s:Bool} {x y:ByteArray} (h:FrAt w b s x y) (hb:Below n w w') (hn:b<n):FrAt w' b s x y:=(hb.block _ hn).trans h
theorem FrAt.new (w:World) (s:Bool) (x y:ByteArray):FrAt (w.alloc (.cells #[.bool s,.string x,.string y] 66)) w.heap.size s x y:=zay w _
theorem FrAt.alloc {w:World} {b:Nat} {s:Bool} {x y:ByteArray} (h:FrAt w b s x y) (o:Obj):FrAt (w.alloc o) b s x y:=h.below (zaa (Below.refl _ _) _)
theorem fr_put {w w2:World} {D:Nat} {s:Bool} {x y:ByteArray} (f:FrAt w2 D s x y) (hb:Below w.heap.size w w2) (hD:w.heap.size≤D) (t:Bool) (u v:ByteArray):FrAt (((w2.setCell ⟨D,0,none⟩ (.bool t)).setCell ⟨D,1,none⟩ (.string u)).setCell ⟨D,2,none⟩ (.string v)) D t u v∧Below w.heap.size w (((w2.setCell ⟨D,0,none⟩ (.bool t)).setCell ⟨D,1,none⟩ (.string u)).setCell ⟨D,2,none⟩ (.string v)):=
 ⟨(zau (zau (zau f 0 (.bool t)) 1 (.string u)) 2 (.string v)).trans rfl,zag (zag (zag hb hD) hD) hD⟩
theorem fr_three (w:World) (s t u:Bool) (a b c d e f:ByteArray):FrAt (((w.alloc (.cells #[.bool s,.string a,.string b] 66)).alloc (.cells #[.bool t,.string c,.string d] 66)).alloc (.cells #[.bool u,.string e,.string f] 66)) w.heap.size s a b ∧
  FrAt (((w.alloc (.cells #[.bool s,.string a,.string b] 66)).alloc (.cells #[.bool t,.string c,.string d] 66)).alloc (.cells #[.bool u,.string e,.string f] 66)) (w.heap.size+1) t c d ∧
  FrAt (((w.alloc (.cells #[.bool s,.string a,.string b] 66)).alloc (.cells #[.bool t,.string c,.string d] 66)).alloc (.cells #[.bool u,.string e,.string f] 66)) (w.heap.size+1+1) u e f ∧
  Below w.heap.size w (((w.alloc (.cells #[.bool s,.string a,.string b] 66)).alloc (.cells #[.bool t,.string c,.string d] 66)).alloc (.cells #[.bool u,.string e,.string f] 66)):=by
 refine ⟨((FrAt.new w s a b).alloc _).alloc _,?_,?_,zaa (zaa (zaa (Below.refl _ _) _) _) _⟩
 ·have h:=(FrAt.new (w.alloc (.cells #[.bool s,.string a,.string b] 66)) t c d).alloc (.cells #[.bool u,.string e,.string f] 66)
  rw [World.size_alloc] at h
  exact h
 ·have h:=FrAt.new ((w.alloc (.cells #[.bool s,.string a,.string b] 66)).alloc (.cells #[.bool t,.string c,.string d] 66)) u e f
  rw [World.size_alloc,World.size_alloc] at h
  exact h
theorem fr_two (w:World) (s t:Bool) (a b c d:ByteArray):FrAt ((w.alloc (.cells #[.bool s,.string a,.string b] 66)).alloc (.cells #[.bool t,.string c,.string d] 66)) w.heap.size s a b ∧
  FrAt ((w.alloc (.cells #[.bool s,.string a,.string b] 66)).alloc (.cells #[.bool t,.string c,.string d] 66)) (w.heap.size+1) t c d ∧
  Below w.heap.size w ((w.alloc (.cells #[.bool s,.string a,.string b] 66)).alloc (.cells #[.bool t,.string c,.string d] 66)):=
 ⟨(FrAt.new w s a b).alloc _,by
  have h:=FrAt.new (w.alloc (.cells #[.bool s,.string a,.string b] 66)) t c d
  rw [World.size_alloc] at h
  exact h,zaa (zaa (Below.refl _ _) _) _⟩
noncomputable def c2_Plus.f (a0_0:Bool) (a0_1:ByteArray) (a0_2:ByteArray) (a1_0:Bool) (a1_1:ByteArray) (a1_2:ByteArray):Option (Bool×ByteArray×ByteArray):=(c1_Times.f a0_1 a1_2).bind fun t601=>((c1_Times.f a1_1 a0_2).bind fun t602=>((c1_Times.f a0_2 a1_2).bind fun t603=>(if (a0_0 == a1_0)=true then ((c1_Plus.f t601 t602).bind fun t604=>((c2_Lowest.f a0_0 t604 t603).bind fun bt605=>(some (bt605.1,bt605.2.1,bt605.2.2)))) else ((c1_Compare.f t601 t602).bind fun t608=>(if t608≥0 then ((c1_Minus.f t601 t602).bind fun t609=>((c2_Lowest.f a0_0 t609 t603).bind fun bt610=>(some (bt610.1,bt610.2.1,bt610.2.2)))) else ((c1_Minus.f t602 t601).bind fun t613=>((c2_Lowest.f a1_0 t613 t603).bind fun bt614=>(some (bt614.1,bt614.2.1,bt614.2.2)))))))))
theorem c2_Plus.calls (a0_0:Bool) (a0_1:ByteArray) (a0_2:ByteArray) (a1_0:Bool) (a1_1:ByteArray) (a1_2:ByteArray) (r1:Bool) (r2:ByteArray) (r3:ByteArray) (w:World) (h:c2_Plus.f a0_0 a0_1 a0_2 a1_0 a1_1 a1_2=some (r1,r2,r3)) :
  Calls Tryz.prog 60 #[.agg #[.bool a0_0,.string a0_1,.string a0_2],.agg #[.bool a1_0,.string a1_1,.string a1_2]] w fun e w'=>e = .returned (.agg #[.bool r1,.string r2,.string r3])∧Below w.heap.size w w':=by
 unfold c2_Plus.f at h
 obtain ⟨x,hx,h2⟩:=Option.bind_eq_some_iff.1 h
 obtain ⟨y,hy,h3⟩:=Option.bind_eq_some_iff.1 h2
 obtain ⟨d,hd,h4⟩:=Option.bind_eq_some_iff.1 h3
 have HX:=Lib.hid (fun W=>c1_Times.calls a0_1 a1_2 x W hx)
 have HY:=Lib.hid (fun W=>c1_Times.calls a1_1 a0_2 y W hy)
 have HD:=Lib.hid (fun W=>c1_Times.calls a0_2 a1_2 d W hd)
 have H:=Lib.hid h4
 clear h h2 h3 h4 hx hy hd
 go_enter Tryz.func60,Tryz.ntmps60
 obtain ⟨fa,fb,fr,hba⟩:=fr_three w a0_0 a1_0 false a0_1 a0_2 a1_1 a1_2 ⟨#[]⟩ ⟨#[]⟩
 go_wp2_with fail
 generalize (((w.alloc (.cells #[.bool a0_0,.string a0_1,.string a0_2] 66)).alloc (.cells #[.bool a1_0,.string a1_1,.string a1_2] 66)).alloc (.cells #[.bool false,.string ⟨#[]⟩,.string ⟨#[]⟩] 66))=W0 at *
 generalize hBx:w.heap.size+1=X0 at *
 generalize hBe:X0+1=B0 at *
 have HBE:=Lib.hid (show w.heap.size≤B0 by omega)
 have HLT:=Lib.hid (show w.heap.size<B0∧X0<B0 by omega)
 have HK:=Lib.hid (show ∀ W':World,Below W0.heap.size W0 W'→W'.cell? ⟨w.heap.size,1,none⟩=some (.string a0_1)∧W'.cell? ⟨w.heap.size,2,none⟩=some (.string a0_2)∧W'.cell? ⟨X0,1,none⟩=some (.string a1_1)∧W'.cell? ⟨X0,2,none⟩=some (.string a1_2) from fun W' h=>⟨(fa.below h).c1,(fa.below h).c2,(fb.below h).c1,(fb.below h).c2⟩)
 clear hBe hBx
 have HLE:=Lib.hid (show B0≤W0.heap.size from Nat.le_of_lt (zas fr))
 have HFA:=Lib.hid fa
 have HFB:=Lib.hid fb
 have HFR:=Lib.hid fr
 have HBA:=Lib.hid hba
 clear fa fb fr hba
 go_region_held3 (fun w'=>w'.cell? ⟨w.heap.size,1,none⟩=some (.string a0_1)∧w'.cell? ⟨w.heap.size,2,none⟩=some (.string a0_2)∧w'.cell? ⟨X0,1,none⟩=some (.string a1_1)∧w'.cell? ⟨X0,2,none⟩=some (.string a1_2))
  (exact HK.out _ (by repeat (with_reducible first|exact Below.refl _ _|apply zao|apply zab|refine bthen ?_ hb3|refine bthen ?_ hb2|refine bthen ?_ hb1)))
  ((first
   | (go_simp; go_at_call 131; (with_reducible change Calls _ _ #[.string a0_1,.string a1_2] _ _); refine (HX.out _).mono ?_; rintro e w1 ⟨rfl,hb1⟩)
   | (go_simp; go_at_call 131; (with_reducible change Calls _ _ #[.string a1_1,.string a0_2] _ _); refine (HY.out _).mono ?_; rintro e w2 ⟨rfl,hb2⟩)
   | (go_simp; go_at_call 131; (with_reducible change Calls _ _ #[.string a0_2,.string a1_2] _ _); refine (HD.out _).mono ?_; rintro e w3 ⟨rfl,hb3⟩)))
 rename_i hHeld
 clear hHeld
 have HB3:=Lib.hid (show Below W0.heap.size W0 w3 from by repeat (with_reducible first|exact Below.refl _ _|apply zao|apply zab|refine bthen ?_ hb3|refine bthen ?_ hb2|refine bthen ?_ hb1))
 clear hb1 hb2 hb3 HX HY HD HK
 have q0:=(HFA.out.below HB3.out).c0
 have q1:=(HFB.out.below HB3.out).c0
 have HQ:=Lib.hid (show ∀ W':World,Below W0.heap.size W0 W'→W'.cell? ⟨w.heap.size,0,none⟩=some (.bool a0_0)∧W'.cell? ⟨X0,0,none⟩=some (.bool a1_0) from fun W' h=>⟨(HFA.out.below h).c0,(HFB.out.below h).c0⟩)
 have HQS:=Lib.hid (show ∀ (W':World) (u v t:Value),Below W0.heap.size W0 W'→(((W'.setCell ⟨B0,0,none⟩ u).setCell ⟨B0,1,none⟩ v).setCell ⟨B0,2,none⟩ t).cell? ⟨w.heap.size,0,none⟩=some (.bool a0_0)∧(((W'.setCell ⟨B0,0,none⟩ u).setCell ⟨B0,1,none⟩ v).setCell ⟨B0,2,none⟩ t).cell? ⟨X0,0,none⟩=some (.bool a1_0) from fun W' u v t h =>
  have k:=Below.setCell (p:=⟨B0,2,none⟩) (Below.setCell (p:=⟨B0,1,none⟩) (Below.setCell (p:=⟨B0,0,none⟩) (h.mono HLE.out) (Nat.le_refl _) u) (Nat.le_refl _) v) (Nat.le_refl _) t
  ⟨(HFA.out.keep k HLT.out.1).c0,(HFB.out.keep k HLT.out.2).c0⟩)
 by_cases hs:(a0_0 == a1_0)=true
 ·obtain ⟨t,ht,h⟩:=Option.bind_eq_some_iff.1 ((if_pos hs).symm.trans H.out)
  obtain ⟨⟨l0,l1,l2⟩,hl,h⟩:=Option.bind_eq_some_iff.1 h
  cases h
  have HT:=Lib.hid (fun W=>c1_Plus.calls x y t W ht)
  have HL:=Lib.hid (fun W=>c2_Lowest.calls a0_0 t d l0 l1 l2 W hl)
  clear ht hl H
  go_wp2_with fail
  go_region_held3 (fun w'=>w'.cell? ⟨w.heap.size,0,none⟩=some (.bool a0_0)∧w'.cell? ⟨X0,0,none⟩=some (.bool a1_0))
   (first|(with_reducible refine HQS.out _ _ _ _ ?_; repeat (with_reducible first|exact Below.refl _ _|exact HB3.out|apply zao|apply zab|refine bthen ?_ hb5|refine bthen ?_ hb4|refine bthen ?_ hb6))|(with_reducible refine HQ.out _ ?_; repeat (with_reducible first|exact Below.refl _ _|exact HB3.out|apply zao|apply zab|refine bthen ?_ hb5|refine bthen ?_ hb4|refine bthen ?_ hb6)))
   ((first
    | (go_simp; go_at_call 129; refine (HT.out _).mono ?_; rintro e w4 ⟨rfl,hb4⟩)
    | (go_simp; go_at_call 111; refine (HL.out _).mono ?_; rintro e w5 ⟨rfl,hb5⟩; have fr5:=HFR.out.below (show Below W0.heap.size W0 w5 from (by repeat (with_reducible first|exact Below.refl _ _|exact HB3.out|apply zao|apply zab|refine bthen ?_ hb5|refine bthen ?_ hb4|refine bthen ?_ hb6))); have cB0:=fr5.c0; have cB1:=fr5.c1; have cB2:=fr5.c2; have fB0:=zad fr5 0; have fB1:=zad fr5 1; have fB2:=zad fr5 2)))
  have hs1:=zau fr5 0 (.bool l0)
  have hs2:=zau hs1 1 (.string l1)
  have hs3:=zau hs2 2 (.string l2)
  have HS3:=Lib.hid (hs3.trans (show _=some (Obj.cells #[.bool l0,.string l1,.string l2] 66 (0,0)) from rfl))
  have HBF:=Lib.hid (zag (zag (zag (g:=B0) (j:=0) (v:=.bool l0) (bthen HBA.out (show Below W0.heap.size W0 w5 from (by repeat (with_reducible first|exact Below.refl _ _|exact HB3.out|apply zao|apply zab|refine bthen ?_ hb5|refine bthen ?_ hb4|refine bthen ?_ hb6)))) HBE.out) (j:=1) (v:=.string l1) (g:=B0) HBE.out) (j:=2) (v:=.string l2) (g:=B0) HBE.out)
  clear hs1 hs2 hs3 fr5 cB0 cB1 cB2 fB0 fB1 fB2 hb4 hb5
  go_wp2
  refine bodyPost_ret (results_cell_row rfl _ _ B0 66 #[.bool l0,.string l1,.string l2] (0,0) _ rfl HS3.out Tryz.underlying66 rfl (by kernel_rfl)) rfl ?_
  exact ⟨rfl,HBF.out⟩
 ·obtain ⟨c,hc,h⟩:=Option.bind_eq_some_iff.1 ((if_neg hs).symm.trans H.out)
  have HCc:=Lib.hid (fun W=>c1_Compare.calls x y c W hc)
  have hs':(a0_0 == a1_0)=false:=by simpa using hs
  clear hc hs H
  go_wp2_with fail
  refine (HCc.out _).mono ?_
  rintro e w6 ⟨rfl,hb6⟩
  by_cases hg:c≥0
  ·obtain ⟨t,ht,h⟩:=Option.bind_eq_some_iff.1 ((if_pos hg).symm.trans h)
   obtain ⟨⟨l0,l1,l2⟩,hl,h⟩:=Option.bind_eq_some_iff.1 h
   cases h
   have HT:=Lib.hid (fun W=>c1_Minus.calls x y t W ht)
   have HL:=Lib.hid (fun W=>c2_Lowest.calls a0_0 t d l0 l1 l2 W hl)
   clear ht hl HCc
   go_wp2_with fail
   go_region_held3 (fun w'=>w'.cell? ⟨w.heap.size,0,none⟩=some (.bool a0_0)∧w'.cell? ⟨X0,0,none⟩=some (.bool a1_0))
    (first|(with_reducible refine HQS.out _ _ _ _ ?_; repeat (with_reducible first|exact Below.refl _ _|exact HB3.out|apply zao|apply zab|refine bthen ?_ hb5|refine bthen ?_ hb4|refine bthen ?_ hb6))|(with_reducible refine HQ.out _ ?_; repeat (with_reducible first|exact Below.refl _ _|exact HB3.out|apply zao|apply zab|refine bthen ?_ hb5|refine bthen ?_ hb4|refine bthen ?_ hb6)))
    ((first
     | (go_simp; go_at_call 130; refine (HT.out _).mono ?_; rintro e w4 ⟨rfl,hb4⟩)
     | (go_simp; go_at_call 111; refine (HL.out _).mono ?_; rintro e w5 ⟨rfl,hb5⟩; have fr5:=HFR.out.below (show Below W0.heap.size W0 w5 from (by repeat (with_reducible first|exact Below.refl _ _|exact HB3.out|apply zao|apply zab|refine bthen ?_ hb5|refine bthen ?_ hb4|refine bthen ?_ hb6))); have cB0:=fr5.c0; have cB1:=fr5.c1; have cB2:=fr5.c2; have fB0:=zad fr5 0; have fB1:=zad fr5 1; have fB2:=zad fr5 2)))
   have hs1:=zau fr5 0 (.bool l0)
   have hs2:=zau hs1 1 (.string l1)
   have hs3:=zau hs2 2 (.string l2)
   have HS3:=Lib.hid (hs3.trans (show _=some (Obj.cells #[.bool l0,.string l1,.string l2] 66 (0,0)) from rfl))
   have HBF:=Lib.hid (zag (zag (zag (g:=B0) (j:=0) (v:=.bool l0) (bthen HBA.out (show Below W0.heap.size W0 w5 from (by repeat (with_reducible first|exact Below.refl _ _|exact HB3.out|apply zao|apply zab|refine bthen ?_ hb5|refine bthen ?_ hb4|refine bthen ?_ hb6)))) HBE.out) (j:=1) (v:=.string l1) (g:=B0) HBE.out) (j:=2) (v:=.string l2) (g:=B0) HBE.out)
   clear hs1 hs2 hs3 fr5 cB0 cB1 cB2 fB0 fB1 fB2 hb4 hb5
   go_wp2
   refine bodyPost_ret (results_cell_row rfl _ _ B0 66 #[.bool l0,.string l1,.string l2] (0,0) _ rfl HS3.out Tryz.underlying66 rfl (by kernel_rfl)) rfl ?_
   exact ⟨rfl,HBF.out⟩
  ·obtain ⟨t,ht,h⟩:=Option.bind_eq_some_iff.1 ((if_neg hg).symm.trans h)
   obtain ⟨⟨l0,l1,l2⟩,hl,h⟩:=Option.bind_eq_some_iff.1 h
   cases h
   have HT:=Lib.hid (fun W=>c1_Minus.calls y x t W ht)
   have HL:=Lib.hid (fun W=>c2_Lowest.calls a1_0 t d l0 l1 l2 W hl)
   clear ht hl HCc
   go_wp2_with fail
   go_region_held3 (fun w'=>w'.cell? ⟨w.heap.size,0,none⟩=some (.bool a0_0)∧w'.cell? ⟨X0,0,none⟩=some (.bool a1_0))
    (first|(with_reducible refine HQS.out _ _ _ _ ?_; repeat (with_reducible first|exact Below.refl _ _|exact HB3.out|apply zao|apply zab|refine bthen ?_ hb5|refine bthen ?_ hb4|refine bthen ?_ hb6))|(with_reducible refine HQ.out _ ?_; repeat (with_reducible first|exact Below.refl _ _|exact HB3.out|apply zao|apply zab|refine bthen ?_ hb5|refine bthen ?_ hb4|refine bthen ?_ hb6)))
    ((first
     | (go_simp; go_at_call 130; refine (HT.out _).mono ?_; rintro e w4 ⟨rfl,hb4⟩)
     | (go_simp; go_at_call 111; refine (HL.out _).mono ?_; rintro e w5 ⟨rfl,hb5⟩; have fr5:=HFR.out.below (show Below W0.heap.size W0 w5 from (by repeat (with_reducible first|exact Below.refl _ _|exact HB3.out|apply zao|apply zab|refine bthen ?_ hb5|refine bthen ?_ hb4|refine bthen ?_ hb6))); have cB0:=fr5.c0; have cB1:=fr5.c1; have cB2:=fr5.c2; have fB0:=zad fr5 0; have fB1:=zad fr5 1; have fB2:=zad fr5 2)))
   have hs1:=zau fr5 0 (.bool l0)
   have hs2:=zau hs1 1 (.string l1)
   have hs3:=zau hs2 2 (.string l2)
   have HS3:=Lib.hid (hs3.trans (show _=some (Obj.cells #[.bool l0,.string l1,.string l2] 66 (0,0)) from rfl))
   have HBF:=Lib.hid (zag (zag (zag (g:=B0) (j:=0) (v:=.bool l0) (bthen HBA.out (show Below W0.heap.size W0 w5 from (by repeat (with_reducible first|exact Below.refl _ _|exact HB3.out|apply zao|apply zab|refine bthen ?_ hb5|refine bthen ?_ hb4|refine bthen ?_ hb6)))) HBE.out) (j:=1) (v:=.string l1) (g:=B0) HBE.out) (j:=2) (v:=.string l2) (g:=B0) HBE.out)
   clear hs1 hs2 hs3 fr5 cB0 cB1 cB2 fB0 fB1 fB2 hb4 hb5
   go_wp2
   refine bodyPost_ret (results_cell_row rfl _ _ B0 66 #[.bool l0,.string l1,.string l2] (0,0) _ rfl HS3.out Tryz.underlying66 rfl (by kernel_rfl)) rfl ?_
   exact ⟨rfl,HBF.out⟩
end Go.Proofs.ZQ
end
section
namespace Go.Proofs.ZQ
open Go.RowKit Go.Proofs.ZW.Wa Go.Proofs.ZW.Wb Go.Proofs.ZW.Wc
attribute [local go_sem] zaL zaJ zaS zaR zaC zaB zaK zaI
noncomputable def c2_Times.f (a0_0:Bool) (a0_1:ByteArray) (a0_2:ByteArray) (a1_0:Bool) (a1_1:ByteArray) (a1_2:ByteArray):Option (Bool×ByteArray×ByteArray):=(c1_Times.f a0_1 a1_1).bind fun t618=>((c1_Times.f a0_2 a1_2).bind fun t619=>((c2_Lowest.f (a0_0 != a1_0) t618 t619).bind fun bt620=>(some (bt620.1,bt620.2.1,bt620.2.2))))
noncomputable def c2_Times.B1:List Nat:=[0,1,0,4,15,0,32,0,128,480,0,1024,0,4096,16352,32767,65535]
end Go.Proofs.ZQ
end
