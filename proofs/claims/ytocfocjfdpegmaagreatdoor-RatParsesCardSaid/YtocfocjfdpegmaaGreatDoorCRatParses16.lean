/- Texts under the proof, joined by a program (prune.py): SFormTen, HFormOk, SScale, Q202, QRefTen, SFormEq. -/
import Derived.Test.YtocfocjfdpegmaaGreatDoorCRatParses14
import Derived.Test.YtocfocjfdpegmaaGreatDoorCRatParses15
import Derived.Test.YtocfocjfdpegmaaGreatDoorCRatParses13
import Derived.Test.YtocfocjfdpegmaaGreatDoorCRatParses12
import Derived.Test.YtocfocjfdpegmaaGreatDoorCRatParses05
import Derived.Lib.SmallJoins
set_option linter.unusedVariables false
set_option linter.unusedSimpArgs false
set_option exponentiation.threshold 20001
set_option maxHeartbeats 8000000
set_option maxRecDepth 100000
section
namespace Go.Proofs.ZQ
open Go.RowKit Go.Proofs.ZW.Wa Go.Proofs.ZW.Wb Go.Proofs.ZW.Wc Go.Proofs.ZP
theorem bare_nil0:bareT ⟨#[]⟩=⟨#[]⟩:=rfl
def tenP (x:ByteArray) (d:Bool) (p:Int):Option Int:=if x.size=0 then some (0-p) else if 4<x.size then none else if 4096<dval x.data.toList then none else some ((if d then -(dval x.data.toList:Int) else (dval x.data.toList:Int))-p)
theorem ten_same {f:ZP.Fm} (hx:f.exp.size=0∨Dig f.exp.data.toList):tenP (bareT f.exp) f.minus (f.behind:Int)=(ZP.expE f).map (fun k=>k-(f.behind:Int)):=by
 unfold tenP ZP.expE
 by_cases h0:f.exp.size=0
 ·have he:f.exp=⟨#[]⟩:=by
   apply ByteArray.ext; apply Array.ext'; exact List.eq_nil_of_length_eq_zero (by rw [zah]; exact h0)
  rw [if_pos h0,he,bare_nil0]
  rw [if_pos (show (⟨#[]⟩:ByteArray).size=0 from rfl)]
  rfl
 ·have hd:Dig f.exp.data.toList:=hx.resolve_left h0
  have hb:=bare_T (by omega) hd
  have hs:=(T_can (dval f.exp.data.toList)).1
  rw [zah] at hs
  rw [if_neg h0,hb,if_neg (by omega),T_data,dval_decl]
  by_cases h4:4<(T (dval f.exp.data.toList)).size
  ·have h5:¬ dval f.exp.data.toList<10^4:=fun h=>by
    have:=(zaB (n:=dval f.exp.data.toList) (k:=4) (by decide)).2 h
    omega
   rw [if_pos h4,if_pos (by omega)]
   rfl
  ·rw [if_neg h4]
   by_cases h6:4096<dval f.exp.data.toList
   ·rw [if_pos h6,if_pos h6]; rfl
   ·rw [if_neg h6,if_neg h6]; rfl
end Go.Proofs.ZQ
end
section
namespace Go.Proofs.ZP
open Go.RowKit Go.Proofs.ZW.Wa
theorem isD_iff {c:UInt8}:isD c=true↔48≤c.toNat∧c.toNat≤57:=by unfold isD; simp
theorem digT_data (s:ByteArray) (f:Fm):(f.digT s).data.toList=(s.data.toList.drop f.at_).takeWhile isD:=by
 unfold Fm.digT runN
 rw [ByteArray.data_extract,Array.toList_extract,List.extract_eq_take_drop,Nat.add_sub_cancel_left]
 exact (List.prefix_iff_eq_take.1 (List.takeWhile_prefix isD)).symm
theorem dig_takeWhile (l:List UInt8):Dig (l.takeWhile isD):=by
 induction l with
 | nil=>intro c hc; cases hc
 | cons b t ih =>
  intro c hc
  rw [List.takeWhile_cons] at hc
  split at hc
  ·rename_i hb
   rcases List.mem_cons.1 hc with rfl|hc
   ·exact isD_iff.1 hb
   ·exact ih c hc
  ·cases hc
theorem dig_nil:Dig []:=fun c hc=>by cases hc
theorem digT_dig (s:ByteArray) (f:Fm):Dig (f.digT s).data.toList:=by rw [digT_data]; exact dig_takeWhile _
theorem dig_app {a b:ByteArray} (ha:Dig a.data.toList) (hb:Dig b.data.toList):Dig (a++b).data.toList:=fun c hc=>by
 rw [ByteArray.data_append,Array.toList_append] at hc
 exact (List.mem_append.1 hc).elim (ha c) (hb c)
structure Gd (s:ByteArray) (f:Fm):Prop where
 m:Dig f.m.data.toList
 x:Dig f.exp.data.toList
 d:Dig f.den.data.toList
 mz:f.m.size≤2*s.size
 xz:f.exp.size≤s.size
 dz:f.den.size≤s.size
 bh:f.behind≤s.size
 at_:Okf s f
theorem Gd.sgn {s set:ByteArray} {f:Fm} (h:Gd s f):Gd s (f.sgn s set):=by
 have ha:=h.at_.sgn (set:=set)
 unfold Fm.sgn at *
 split
 ·rename_i hb
  rw [if_pos hb] at ha
  exact ⟨h.m,h.x,h.d,h.mz,h.xz,h.dz,h.bh,ha⟩
 ·exact h
theorem Gd.dig {s:ByteArray} {f:Fm} (h:Gd s f):Gd s (f.dig s):=⟨h.m,h.x,h.d,h.mz,h.xz,h.dz,h.bh,h.at_.dig⟩
theorem sgn_m2 (s set:ByteArray) (f:Fm):(f.sgn s set).m=f.m:=Fm.sgn_m s set f
theorem form1_ok (s:ByteArray):Gd s (form1 s)∧(form1 s).m.size≤s.size:=by
 have h0:Gd s F0:=⟨dig_nil,dig_nil,dig_nil,Nat.zero_le _,Nat.zero_le _,Nat.zero_le _,Nat.zero_le _,Nat.zero_le _⟩
 have h1:Gd s { F0.sgn s cM with neg:=F0.sgV s cM != 0 }:=by
  have h:=h0.sgn (set:=cM)
  exact ⟨h.m,h.x,h.d,h.mz,h.xz,h.dz,h.bh,h.at_⟩
 have h2:=h1.dig
 have hz:=zb3 s { F0.sgn s cM with neg:=F0.sgV s cM != 0 }
 exact ⟨⟨digT_dig _ _,h2.x,h2.d,Nat.le_trans hz (by omega),h2.xz,h2.dz,h2.bh,h2.at_⟩,hz⟩
theorem formS_ok {s:ByteArray} {f:Fm} (h:Gd s f):Gd s (formS s f):=by
 have h1:Gd s { f.sgn s cS with fraction:=true,slash:=(f.sgn s cS).at_ }:=by
  have h:=h.sgn (set:=cS)
  exact ⟨h.m,h.x,h.d,h.mz,h.xz,h.dz,h.bh,h.at_⟩
 have h2:=h1.dig
 exact ⟨h2.m,h2.x,digT_dig _ _,h2.mz,h2.xz,zb3 _ _,h2.bh,h2.at_⟩
theorem formP_ok {s:ByteArray} {f:Fm} (h:Gd s f) (hm:f.m.size≤s.size):Gd s (formP s f):=by
 unfold formP
 split
 ·exact h.sgn
 ·have h1:=h.sgn (set:=cP)
  have h2:=h1.dig
  have hz:=zb3 s (f.sgn s cP)
  refine ⟨dig_app h1.m (digT_dig _ _),h2.x,h2.d,?_,h2.xz,h2.dz,hz,h2.at_⟩
  show ((f.sgn s cP).m++_).size≤_
  rw [ByteArray.size_append,sgn_m2]
  omega
theorem formE_ok {s:ByteArray} {f:Fm} (h:Gd s f):Gd s (formE s f):=by
 unfold formE
 split
 ·exact h.sgn
 ·have h1:=h.sgn (set:=cE)
  have h2:Gd s { (f.sgn s cE).sgn s cPM with minus:=(f.sgn s cE).sgV s cPM == 45 }:=by
   have h:=h1.sgn (set:=cPM)
   exact ⟨h.m,h.x,h.d,h.mz,h.xz,h.dz,h.bh,h.at_⟩
  show Gd s (if _ then _ else _)
  split
  ·exact h2
  ·have h3:=h2.dig
   exact ⟨h3.m,digT_dig _ _,h3.d,h3.mz,zb3 _ _,h3.dz,h3.bh,h3.at_⟩
theorem formF_ok (s:ByteArray):Gd s (formF s):=by
 obtain ⟨h1,h2⟩:=form1_ok s
 unfold formF
 split
 ·exact formE_ok (formP_ok h1.sgn (by rw [sgn_m2]; exact h2))
 ·exact formS_ok h1
noncomputable def signed (f:Fm) (x:Rat):Rat:=if f.neg then -x else x
noncomputable def fracF (f:Fm):Option Rat:=if 600<(T (dval f.m.data.toList)).size∨600<(T (dval f.den.data.toList)).size then none else some (Rat.divInt (dval f.m.data.toList) (dval f.den.data.toList))
noncomputable def toldP (f:Fm) (r:Option Rat):ByteArray×ByteArray×Int×Int:=match r with
 | none=>(⟨#[]⟩,⟨#[]⟩,7,0)
 | some x=>((toldR (signed f x)).1,(toldR (signed f x)).2.1,(toldR (signed f x)).2.2,0)
noncomputable def parseF (s:ByteArray):ByteArray×ByteArray×Int×Int:=
 if 65536<s.size then (⟨#[]⟩,⟨#[]⟩,4,0)
 else if (formF s).end_ s=false then (⟨#[]⟩,⟨#[]⟩,3,((formF s).at_:Int))
 else if (formF s).fraction=true then (if dval (formF s).den.data.toList=0 then (⟨#[]⟩,⟨#[]⟩,8,((formF s).slash:Int)) else toldP (formF s) (fracF (formF s)))
 else toldP (formF s) (decF (formF s))
end Go.Proofs.ZP
end
section
namespace Go.Proofs.ZQ
open Go.RowKit Go.Proofs.ZW.Wa Go.Proofs.ZW.Wb Go.Proofs.ZW.Wc Go.Proofs.ZP
theorem T_shift {M:Nat} (hM:M≠0) (p:Nat):T M++ZP.zer p=T (M*10^p):=by
 have hd:(T M++ZP.zer p).data.toList=decl M++List.replicate p (48:UInt8):=by
  rw [ByteArray.data_append,Array.toList_append,T_data]; simp [ZP.zer]
 refine (can_T ?_).trans (congrArg T ?_)
 ·rw [hd]
  refine ⟨by rw [List.length_append]; have:=zaK M; omega,?_,fun e => ?_⟩
  ·intro c hc
   rcases List.mem_append.1 hc with hc|hc
   ·exact dig_decl M c hc
   ·rw [(List.mem_replicate.1 hc).2]; decide
  ·exfalso
   have h1:=head_decl (n:=M) (by omega)
   rcases hq:decl M with _|⟨c,t⟩
   ·have:=zaK M; rw [hq] at this; simp at this
   ·rw [hq] at h1 e; simp at h1 e; exact h1 e
 ·rw [hd,za9,dval_zeros,dval_decl,List.length_replicate,Nat.add_zero]
theorem sgn_divInt (s:Bool) (a:Nat) (b:Int):Rat.divInt (sgn s a) b=(if s then -(Rat.divInt (a:Int) b) else Rat.divInt (a:Int) b):=by
 cases s
 ·rfl
 ·show Rat.divInt (-(a:Int)) b = -(Rat.divInt (a:Int) b)
  exact (Rat.neg_divInt ..).symm
theorem ten_pow_cast (j:Nat):(((10:Int)^j:Int):Rat)=(((10^j:Nat):Int):Rat):=by
 rw [Int.natCast_pow]; rfl
theorem scale_down (M:Nat) (k:Int) (hk:k<0):((M:Int):Rat)*tenR k=Rat.divInt (M:Int) ((10^k.natAbs:Nat):Int):=by
 unfold tenR
 rw [if_pos hk,ten_pow_cast,Rat.divInt_eq_div,Rat.div_def]
theorem scale_up (M:Nat) (k:Int) (hk:¬ k<0):((M:Int):Rat)*tenR k=Rat.divInt ((M*10^k.natAbs:Nat):Int) ((1:Nat):Int):=by
 unfold tenR
 rw [if_neg hk,ten_pow_cast,←Rat.intCast_mul,int_div1,Int.natCast_mul]
 rfl
theorem signed_div (f:Fm) (a:Nat) (b:Int):signed f (Rat.divInt (a:Int) b)=Rat.divInt (sgn f.neg a) b:=by
 unfold signed
 exact (sgn_divInt f.neg a b).symm
noncomputable def sclP (s:Bool) (M:Nat) (k:Int):Option Rat:=if 600<(T M).size∨k ≤ -600∨(0<k∧M≠0∧600<((T M).size:Int)+k) then none else if k<0 then some (Rat.divInt (sgn s M) ((10^k.natAbs:Nat):Int)) else some (Rat.divInt (sgn s (M*10^k.natAbs)) ((1:Nat):Int))
theorem scl_same (f:Fm) (M:Nat) (k:Int):(ZP.scaleF M k).map (signed f)=sclP f.neg M k:=by
 unfold ZP.scaleF sclP
 by_cases h:600<(T M).size∨(k<0∧600<1-k)∨(0≤k∧M≠0∧600<((T M).size:Int)+k)
 ·rw [if_pos h,if_pos]
  ·rfl
  ·rcases h with h|⟨h1,h2⟩|⟨h1,h2,h3⟩
   ·exact Or.inl h
   ·exact Or.inr (Or.inl (by omega))
   ·by_cases h4:0<k
    ·exact Or.inr (Or.inr ⟨h4,h2,h3⟩)
    ·exact Or.inl (by omega)
 ·rw [if_neg h,if_neg]
  ·rw [Option.map_some]
   by_cases hk:k<0
   ·rw [if_pos hk,scale_down M k hk,signed_div]
   ·rw [if_neg hk,scale_up M k hk,signed_div]
  ·intro h2
   apply h
   rcases h2 with h2|h2|⟨h1,h2,h3⟩
   ·exact Or.inl h2
   ·exact Or.inr (Or.inl ⟨by omega,by omega⟩)
   ·exact Or.inr (Or.inr ⟨by omega,h2,h3⟩)
theorem fr_up (s:Bool) (a:Nat):Fr (Rat.divInt (sgn s a) ((1:Nat):Int))=(s && decide (a≠0),T a,T 1):=by
 rw [fr_of s a 1 (by decide),Nat.gcd_one_right,Nat.div_one,Nat.div_one]
end Go.Proofs.ZQ
end
section
namespace Go.Proofs.ZQ
open Go.RowKit Go.Proofs.ZW.Wa Go.Proofs.ZW.Wb Go.Proofs.ZW.Wc
attribute [local go_sem] zaH zaF zaW zaV zaA zaz zaG zaE
noncomputable def c2_Scaled.j0:Nat→Bool→ByteArray→Int→Bool→Option (Bool×ByteArray×ByteArray×Bool)
 | 0,_,_,_,_=>none
 | k+1,x0,x1,x2,x29=>if x29=true then (some (false,(⟨#[]⟩:ByteArray),(⟨#[]⟩:ByteArray),false)) else (if x2<0 then ((c2_Zeros.f (wrap64 (-x2))).bind fun t662=>(if 1+t662.size≤9223372036854775807 then ((c2_Lowest.f x0 x1 ((⟨#[49]⟩:ByteArray)++t662)).bind fun bt663=>(some (bt663.1,bt663.2.1,bt663.2.2,true))) else (none))) else (if x1.toList=([48]:List UInt8) then (some (false,(⟨#[48]⟩:ByteArray),(⟨#[49]⟩:ByteArray),true)) else ((c2_Zeros.f x2).bind fun t666=>(if x1.size+t666.size≤9223372036854775807 then (some (x0,x1++t666,(⟨#[49]⟩:ByteArray),true)) else (none)))))
noncomputable def c2_Scaled.f (k:Nat) (a0:Bool) (a1:ByteArray) (a2:Int):Option (Bool×ByteArray×ByteArray×Bool):=if (a1.size:Int)>600 then (c2_Scaled.j0 k a0 a1 a2 true) else (if a2≤(-600) then (c2_Scaled.j0 k a0 a1 a2 true) else (if a2>0 then (if a1.toList=([48]:List UInt8) then (c2_Scaled.j0 k a0 a1 a2 false) else (c2_Scaled.j0 k a0 a1 a2 (decide ((wrap64 ((a1.size:Int)+a2))>600)))) else (c2_Scaled.j0 k a0 a1 a2 false)))
theorem c2_Scaled.calls (k:Nat) (a0:Bool) (a1:ByteArray) (a2:Int) (r1:Bool) (r2:ByteArray) (r3:ByteArray) (r4:Bool) (w:World) (h:c2_Scaled.f k a0 a1 a2=some (r1,r2,r3,r4)) :
  Calls Tryz.prog 118 #[.bool a0,.string a1,.int .i64 a2] w fun e w'=>e = .returned (.tuple #[.agg #[.bool r1,.string r2,.string r3],.bool r4])∧Below w.heap.size w w':=by
 have hu76:=Tryz.underlying76
 have HB:=Aside0.mk (Below.refl w.heap.size w)
 have H:(if (a1.size:Int)>600 then (c2_Scaled.j0 k a0 a1 a2 true) else (if a2≤(-600) then (c2_Scaled.j0 k a0 a1 a2 true) else (if a2>0 then (if a1.toList=([48]:List UInt8) then (c2_Scaled.j0 k a0 a1 a2 false) else (c2_Scaled.j0 k a0 a1 a2 (decide ((wrap64 ((a1.size:Int)+a2))>600)))) else (c2_Scaled.j0 k a0 a1 a2 false))))=some (r1,r2,r3,r4):=h
 clear h
 have HC4:=Aside0.mk H
 clear H
 go_enter Tryz.func118,Tryz.ntmps118
 go_upto_region 1 with (first|((with_reducible refine za4 (N:=6) rfl ?_); (try (refine gate_guard (by rfl) ?_; dsimp only)); refine zb4 ?hg (N:=6) ?hd (cs:=#[.bool false,.string (⟨#[]⟩:ByteArray),.string (⟨#[]⟩:ByteArray)]) (t:=76) ?hr ?_; (case hd=>rfl); (case hg=>rfl); (case hr=>first|(go_simp; done)|(go_simp; rfl)); intro gb661 hg w5 hbox hb; have n0_:=Aside0.mk (zar (by repeat (first|(with_reducible first|exact HB.out|apply zaa|apply zab|apply zae)|exact HB.out)) hb); have n1_:=Aside0.mk (hbox); have n2_:=Aside0.mk ((by rw [hg]; exact (zaq (by repeat (first|(with_reducible first|exact HB.out|apply zaa|apply zab|apply zae)|exact HB.out))):w.heap.size≤gb661)); have n3_:=Aside0.mk ((by rw [hg]; exact (zaq (by repeat (first|(with_reducible first|exact HB.out|apply zaa|apply zab|apply zae)|exact HB.out))):w.heap.size≤gb661)); clear HB; have HB:=n0_; have BK661:=n1_; have GW661:=n2_; have GE661:=n3_; clear n0_ n1_ n2_ n3_; clear hb hbox hg))
 (try simp only [Act.put,List.setIfInBounds_toArray,List.set_cons_zero,List.set_cons_succ])
 go_cut [29] (fun v29 wc=>∃ (kq:Nat) (x29_3:Bool),v29 = .bool x29_3∧Aside0 (c2_Scaled.j0 kq a0 a1 a2 x29_3=some (r1,r2,r3,r4))∧Aside0 (kq≤k)∧Aside0 (wc.heap[gb661]? = some (.cells #[.bool false,.string (⟨#[]⟩:ByteArray),.string (⟨#[]⟩:ByteArray)] 76 (0,0)))∧Aside0 (Below w.heap.size w wc))
 case first =>
  have H:=HC4.out
  clear HC4
  by_cases c6:(a1.size:Int)>600
  ·rw [if_pos c6] at H
   have c6b0:decide (600<(a1.size:Int))=true:=decide_eq_true c6
   have c6b1:decide (600<a1.size)=true:=decide_eq_true (by omega)
   clear c6
   (first|rw [c6b0]|(simp only [i64_w,i32_w]; rw [c6b0])|skip)
   have H':=Aside0.mk H
   clear H
   go_wp2
   go_meet
   case rel=>exact ⟨_,(true),(by first|rfl|(simp; done)|(simp [*]; done)),H',⟨by first|omega|exact Nat.le_refl _⟩,⟨by (with_reducible repeat (first|refine zal ?_ _|refine zan ?_|refine zam ?_ _)); exact BK661.out⟩,⟨by repeat (first|(with_reducible first|exact HB.out|apply zaa|apply zab|apply zae|refine zag ?_ GE661.out)|exact HB.out)⟩⟩
  ·rw [if_neg c6] at H
   have c6b0:decide (600<(a1.size:Int))=false:=decide_eq_false c6
   have c6b1:decide (600<a1.size)=false:=decide_eq_false (by omega)
   clear c6
   (first|rw [c6b0]|(simp only [i64_w,i32_w]; rw [c6b0])|skip)
   by_cases c7:a2≤(-600)
   ·rw [if_pos c7] at H
    have c7b0:decide (a2≤(-600))=true:=decide_eq_true c7
    clear c7
    have H':=Aside0.mk H
    clear H
    go_wp2
    go_meet
    case rel=>exact ⟨_,(true),(by first|rfl|(simp; done)|(simp [*]; done)),H',⟨by first|omega|exact Nat.le_refl _⟩,⟨by (with_reducible repeat (first|refine zal ?_ _|refine zan ?_|refine zam ?_ _)); exact BK661.out⟩,⟨by repeat (first|(with_reducible first|exact HB.out|apply zaa|apply zab|apply zae|refine zag ?_ GE661.out)|exact HB.out)⟩⟩
   ·rw [if_neg c7] at H
    have c7b0:decide (a2≤(-600))=false:=decide_eq_false c7
    clear c7
    by_cases c8:a2>0
    ·rw [if_pos c8] at H
     have c8b0:decide (0<a2)=true:=decide_eq_true c8
     clear c8
     by_cases c9:a1.toList=([48]:List UInt8)
     ·rw [if_pos c9] at H
      have c9b0:(a1.toList == ([48]:List UInt8))=true:=beq_iff_eq.mpr c9
      have c9b1:(a1.toList != ([48]:List UInt8))=false:=bne_eq_false_iff_eq.mpr c9
      clear c9
      have H':=Aside0.mk H
      clear H
      go_wp2
      go_meet
      case rel=>exact ⟨_,(false),(by first|rfl|(simp; done)|(simp [*]; done)),H',⟨by first|omega|exact Nat.le_refl _⟩,⟨by (with_reducible repeat (first|refine zal ?_ _|refine zan ?_|refine zam ?_ _)); exact BK661.out⟩,⟨by repeat (first|(with_reducible first|exact HB.out|apply zaa|apply zab|apply zae|refine zag ?_ GE661.out)|exact HB.out)⟩⟩
     ·rw [if_neg c9] at H
      have c9b0:(a1.toList == ([48]:List UInt8))=false:=beq_eq_false_iff_ne.mpr c9
      have c9b1:(a1.toList != ([48]:List UInt8))=true:=bne_iff_ne.mpr c9
      have H':=Aside0.mk H
      clear H
      go_wp2
      go_meet
      case rel=>exact ⟨_,(decide ((wrap64 ((a1.size:Int)+a2))>600)),(by first|rfl|(simp; done)|(simp [*]; done)),H',⟨by first|omega|exact Nat.le_refl _⟩,⟨by (with_reducible repeat (first|refine zal ?_ _|refine zan ?_|refine zam ?_ _)); exact BK661.out⟩,⟨by repeat (first|(with_reducible first|exact HB.out|apply zaa|apply zab|apply zae|refine zag ?_ GE661.out)|exact HB.out)⟩⟩
    ·rw [if_neg c8] at H
     have c8b0:decide (0<a2)=false:=decide_eq_false c8
     clear c8
     have H':=Aside0.mk H
     clear H
     go_wp2
     go_meet
     case rel=>exact ⟨_,(false),(by first|rfl|(simp; done)|(simp [*]; done)),H',⟨by first|omega|exact Nat.le_refl _⟩,⟨by (with_reducible repeat (first|refine zal ?_ _|refine zan ?_|refine zam ?_ _)); exact BK661.out⟩,⟨by repeat (first|(with_reducible first|exact HB.out|apply zaa|apply zab|apply zae|refine zag ?_ GE661.out)|exact HB.out)⟩⟩
 case rest =>
  clear HC4
  try clear c1
  try clear p2
  try clear c6
  try clear c6b0
  try clear c6b1
  try clear p6
  try clear c7
  try clear c7b0
  try clear c8
  try clear c8b0
  try clear c9
  try clear c9b0
  try clear c9b1
  obtain ⟨kq,x29_3,rfl,HA,HJ3,BK661,HB⟩:=hcut
  cases kq with
  | zero=>exact absurd HA.out (by simp [c2_Scaled.j0])
  | succ kj3 =>
   have H:=HA.out
   clear HA
   simp only [c2_Scaled.j0] at H
   by_cases c10:x29_3=true
   ·subst c10
    have H1:(some (false,(⟨#[]⟩:ByteArray),(⟨#[]⟩:ByteArray),false))=some (r1,r2,r3,r4):=by rw [if_pos rfl] at H; exact H
    clear H
    have H:=H1
    clear H1
    simp only [Option.some.injEq,Prod.mk.injEq] at H
    obtain ⟨rfl,rfl,rfl,rfl⟩:=H
    have hcz11_0:wc.cell? ⟨gb661,0,none⟩=some (.bool false):=(zaf BK661.out 0).trans rfl
    have hcz11_1:wc.cell? ⟨gb661,1,none⟩=some (.string (⟨#[]⟩:ByteArray)):=(zaf BK661.out 1).trans rfl
    have hcz11_2:wc.cell? ⟨gb661,2,none⟩=some (.string (⟨#[]⟩:ByteArray)):=(zaf BK661.out 2).trans rfl
    have hfz11_0:=zad BK661.out 0
    have hfz11_1:=zad BK661.out 1
    have hfz11_2:=zad BK661.out 2
    go_wp2
    refine bodyPost_ret (zaC rfl _ _ gb661 76 #[.bool false,.string (⟨#[]⟩:ByteArray),.string (⟨#[]⟩:ByteArray)] (0,0) _ rfl (by (with_reducible repeat (first|refine zal ?_ _|refine zan ?_|refine zam ?_ _)); refine zaL (cs:=#[.bool false,.string (⟨#[]⟩:ByteArray),.string (⟨#[]⟩:ByteArray)]) ?_ 2 _ rfl; (with_reducible repeat (first|refine zal ?_ _|refine zan ?_|refine zam ?_ _)); refine zaL (cs:=#[.bool false,.string (⟨#[]⟩:ByteArray),.string (⟨#[]⟩:ByteArray)]) ?_ 1 _ rfl; (with_reducible repeat (first|refine zal ?_ _|refine zan ?_|refine zam ?_ _)); refine zaL (cs:=#[.bool false,.string (⟨#[]⟩:ByteArray),.string (⟨#[]⟩:ByteArray)]) ?_ 0 _ rfl; (with_reducible repeat (first|refine zal ?_ _|refine zan ?_|refine zam ?_ _)); exact BK661.out) Tryz.underlying76 rfl (by kernel_rfl)) rfl ?_
    exact ⟨by first|rfl|(simp [zak,zaj]<;>rfl)|(simp [*,zak,zaj]<;>rfl),by repeat (first|(with_reducible first|exact HB.out|apply zaa|apply zab|apply zae|refine zag ?_ GE661.out)|exact HB.out)⟩
   ·replace c10:=Bool.eq_false_iff.mpr c10
    subst c10
    have H1:(if a2<0 then ((c2_Zeros.f (wrap64 (-a2))).bind fun t662=>(if 1+t662.size≤9223372036854775807 then ((c2_Lowest.f a0 a1 ((⟨#[49]⟩:ByteArray)++t662)).bind fun bt663=>(some (bt663.1,bt663.2.1,bt663.2.2,true))) else (none))) else (if a1.toList=([48]:List UInt8) then (some (false,(⟨#[48]⟩:ByteArray),(⟨#[49]⟩:ByteArray),true)) else ((c2_Zeros.f a2).bind fun t666=>(if a1.size+t666.size≤9223372036854775807 then (some (a0,a1++t666,(⟨#[49]⟩:ByteArray),true)) else (none)))))=some (r1,r2,r3,r4):=by rw [if_neg (show ¬ (false=true) by decide)] at H; exact H
    clear H
    have H:=H1
    clear H1
    by_cases c12:a2<0
    ·rw [if_pos c12] at H
     have c12b0:decide (a2<0)=true:=decide_eq_true c12
     clear c12
     replace H:=Option.bind_eq_some_iff.mp H
     obtain ⟨t662,A130,H⟩:=H
     replace H:(if 1+t662.size≤9223372036854775807 then ((c2_Lowest.f a0 a1 ((⟨#[49]⟩:ByteArray)++t662)).bind fun bt663=>(some (bt663.1,bt663.2.1,bt663.2.2,true))) else (none))=some (r1,r2,r3,r4):=H
     have A13:=Aside0.mk A130
     clear A130
     by_cases c14:1+t662.size≤9223372036854775807
     ·rw [if_pos c14] at H
      have c14b0:=eq_true c14
      have c14b1:decide (1+t662.size≤9223372036854775807)=true:=decide_eq_true c14
      try have c14b2:(9223372036854775807<1+t662.size)=False:=eq_false (Nat.not_lt.2 c14)
      replace H:=Option.bind_eq_some_iff.mp H
      obtain ⟨⟨t663,t664,t665⟩,A150,H⟩:=H
      replace H:(some (t663,t664,t665,true))=some (r1,r2,r3,r4):=H
      have A15:=Aside0.mk A150
      clear A150
      simp only [Option.some.injEq,Prod.mk.injEq] at H
      obtain ⟨rfl,rfl,rfl,rfl⟩:=H
      go_wp2_with (first|((with_reducible refine zaD (f:=65) rfl ?_); refine zbR (some 37) rfl rfl Tryz.func65 (by kernel_rfl) rfl #[.int .i64 (wrap64 (-a2))] rfl (by (try simp only [List.map_toArray,List.map_cons,List.map_nil]); first|done|rfl|(simp only [List.length_drop,List.length_take]; rfl)) ?_; (with_reducible refine (c2_Zeros.calls (wrap64 (-a2)) t662 _ A13.out).mono ?_); rintro e w16 ⟨rfl,hb⟩; refine ⟨_,rfl,?_⟩; have n0_:=Aside0.mk (zbG (g:=gb661) (o:=.cells #[.bool false,.string (⟨#[]⟩:ByteArray),.string (⟨#[]⟩:ByteArray)] 76 (0,0)) (by (with_reducible repeat (first|refine zal ?_ _|refine zan ?_|refine zam ?_ _)); exact BK661.out) hb); have n1_:=Aside0.mk (zar (by repeat (first|(with_reducible first|exact HB.out|apply zaa|apply zab|apply zae|refine zag ?_ GE661.out)|exact HB.out)) hb); clear BK661; clear HB; have BK661:=n0_; have HB:=n1_; clear n0_ n1_; (try clear hb); (try clear hb2); (try clear hk); (try clear hi))|((with_reducible refine zaD (f:=72) rfl ?_); refine zbR (some 39) rfl rfl Tryz.func72 (by kernel_rfl) rfl #[.bool a0,.string a1,.string ((⟨#[49]⟩:ByteArray)++t662)] rfl (by (try simp only [List.map_toArray,List.map_cons,List.map_nil]); first|done|rfl|(simp only [List.length_drop,List.length_take]; rfl)) ?_; (with_reducible refine (c2_Lowest.calls a0 a1 ((⟨#[49]⟩:ByteArray)++t662) t663 t664 t665 _ A15.out).mono ?_); rintro e w17 ⟨rfl,hb⟩; refine ⟨_,rfl,?_⟩; have n0_:=Aside0.mk (zbG (g:=gb661) (o:=.cells #[.bool false,.string (⟨#[]⟩:ByteArray),.string (⟨#[]⟩:ByteArray)] 76 (0,0)) (by (with_reducible repeat (first|refine zal ?_ _|refine zan ?_|refine zam ?_ _)); exact BK661.out) hb); have n1_:=Aside0.mk (zar (by repeat (first|(with_reducible first|exact HB.out|apply zaa|apply zab|apply zae|refine zag ?_ GE661.out)|exact HB.out)) hb); clear BK661; clear HB; have BK661:=n0_; have HB:=n1_; clear n0_ n1_; (try clear hb); (try clear hb2); (try clear hk); (try clear hi); have hcz18_0:w17.cell? ⟨gb661,0,none⟩=some (.bool false):=(zaf BK661.out 0).trans rfl; have hcz18_1:w17.cell? ⟨gb661,1,none⟩=some (.string (⟨#[]⟩:ByteArray)):=(zaf BK661.out 1).trans rfl; have hcz18_2:w17.cell? ⟨gb661,2,none⟩=some (.string (⟨#[]⟩:ByteArray)):=(zaf BK661.out 2).trans rfl; have hfz18_0:=zad BK661.out 0; have hfz18_1:=zad BK661.out 1; have hfz18_2:=zad BK661.out 2))
      refine bodyPost_ret (zaC rfl _ _ gb661 76 #[.bool t663,.string t664,.string t665] (0,0) _ rfl (by (with_reducible repeat (first|refine zal ?_ _|refine zan ?_|refine zam ?_ _)); refine zaL (cs:=#[.bool t663,.string t664,.string (⟨#[]⟩:ByteArray)]) ?_ 2 _ rfl; (with_reducible repeat (first|refine zal ?_ _|refine zan ?_|refine zam ?_ _)); refine zaL (cs:=#[.bool t663,.string (⟨#[]⟩:ByteArray),.string (⟨#[]⟩:ByteArray)]) ?_ 1 _ rfl; (with_reducible repeat (first|refine zal ?_ _|refine zan ?_|refine zam ?_ _)); refine zaL (cs:=#[.bool false,.string (⟨#[]⟩:ByteArray),.string (⟨#[]⟩:ByteArray)]) ?_ 0 _ rfl; (with_reducible repeat (first|refine zal ?_ _|refine zan ?_|refine zam ?_ _)); exact BK661.out) Tryz.underlying76 rfl (by kernel_rfl)) rfl ?_
      exact ⟨by first|rfl|(simp [zak,zaj]<;>rfl)|(simp [*,zak,zaj]<;>rfl),by repeat (first|(with_reducible first|exact HB.out|apply zaa|apply zab|apply zae|refine zag ?_ GE661.out)|exact HB.out)⟩
     ·rw [if_neg c14] at H
      exact absurd H (by simp)
    ·rw [if_neg c12] at H
     have c12b0:decide (a2<0)=false:=decide_eq_false c12
     clear c12
     by_cases c19:a1.toList=([48]:List UInt8)
     ·rw [if_pos c19] at H
      have c19b0:(a1.toList == ([48]:List UInt8))=true:=beq_iff_eq.mpr c19
      have c19b1:(a1.toList != ([48]:List UInt8))=false:=bne_eq_false_iff_eq.mpr c19
      clear c19
      simp only [Option.some.injEq,Prod.mk.injEq] at H
      obtain ⟨rfl,rfl,rfl,rfl⟩:=H
      have hcz20_0:wc.cell? ⟨gb661,0,none⟩=some (.bool false):=(zaf BK661.out 0).trans rfl
      have hcz20_1:wc.cell? ⟨gb661,1,none⟩=some (.string (⟨#[]⟩:ByteArray)):=(zaf BK661.out 1).trans rfl
      have hcz20_2:wc.cell? ⟨gb661,2,none⟩=some (.string (⟨#[]⟩:ByteArray)):=(zaf BK661.out 2).trans rfl
      have hfz20_0:=zad BK661.out 0
      have hfz20_1:=zad BK661.out 1
      have hfz20_2:=zad BK661.out 2
      go_wp2
      refine bodyPost_ret (zaC rfl _ _ gb661 76 #[.bool false,.string (⟨#[48]⟩:ByteArray),.string (⟨#[49]⟩:ByteArray)] (0,0) _ rfl (by (with_reducible repeat (first|refine zal ?_ _|refine zan ?_|refine zam ?_ _)); refine zaL (cs:=#[.bool false,.string (⟨#[48]⟩:ByteArray),.string (⟨#[]⟩:ByteArray)]) ?_ 2 _ rfl; (with_reducible repeat (first|refine zal ?_ _|refine zan ?_|refine zam ?_ _)); refine zaL (cs:=#[.bool false,.string (⟨#[]⟩:ByteArray),.string (⟨#[]⟩:ByteArray)]) ?_ 1 _ rfl; (with_reducible repeat (first|refine zal ?_ _|refine zan ?_|refine zam ?_ _)); refine zaL (cs:=#[.bool false,.string (⟨#[]⟩:ByteArray),.string (⟨#[]⟩:ByteArray)]) ?_ 0 _ rfl; (with_reducible repeat (first|refine zal ?_ _|refine zan ?_|refine zam ?_ _)); exact BK661.out) Tryz.underlying76 rfl (by kernel_rfl)) rfl ?_
      exact ⟨by first|rfl|(simp [zak,zaj]<;>rfl)|(simp [*,zak,zaj]<;>rfl),by repeat (first|(with_reducible first|exact HB.out|apply zaa|apply zab|apply zae|refine zag ?_ GE661.out)|exact HB.out)⟩
     ·rw [if_neg c19] at H
      have c19b0:(a1.toList == ([48]:List UInt8))=false:=beq_eq_false_iff_ne.mpr c19
      have c19b1:(a1.toList != ([48]:List UInt8))=true:=bne_iff_ne.mpr c19
      replace H:=Option.bind_eq_some_iff.mp H
      obtain ⟨t666,A210,H⟩:=H
      replace H:(if a1.size+t666.size≤9223372036854775807 then (some (a0,a1++t666,(⟨#[49]⟩:ByteArray),true)) else (none))=some (r1,r2,r3,r4):=H
      have A21:=Aside0.mk A210
      clear A210
      by_cases c22:a1.size+t666.size≤9223372036854775807
      ·rw [if_pos c22] at H
       have c22b0:=eq_true c22
       have c22b1:decide (a1.size+t666.size≤9223372036854775807)=true:=decide_eq_true c22
       try have c22b2:(9223372036854775807<a1.size+t666.size)=False:=eq_false (Nat.not_lt.2 c22)
       simp only [Option.some.injEq,Prod.mk.injEq] at H
       obtain ⟨rfl,rfl,rfl,rfl⟩:=H
       go_wp2_with (first|((with_reducible refine zaD (f:=65) rfl ?_); refine zbR (some 46) rfl rfl Tryz.func65 (by kernel_rfl) rfl #[.int .i64 a2] rfl (by (try simp only [List.map_toArray,List.map_cons,List.map_nil]); first|done|rfl|(simp only [List.length_drop,List.length_take]; rfl)) ?_; (with_reducible refine (c2_Zeros.calls a2 t666 _ A21.out).mono ?_); rintro e w23 ⟨rfl,hb⟩; refine ⟨_,rfl,?_⟩; have n0_:=Aside0.mk (zbG (g:=gb661) (o:=.cells #[.bool false,.string (⟨#[]⟩:ByteArray),.string (⟨#[]⟩:ByteArray)] 76 (0,0)) (by (with_reducible repeat (first|refine zal ?_ _|refine zan ?_|refine zam ?_ _)); exact BK661.out) hb); have n1_:=Aside0.mk (zar (by repeat (first|(with_reducible first|exact HB.out|apply zaa|apply zab|apply zae|refine zag ?_ GE661.out)|exact HB.out)) hb); clear BK661; clear HB; have BK661:=n0_; have HB:=n1_; clear n0_ n1_; (try clear hb); (try clear hb2); (try clear hk); (try clear hi); have hcz24_0:w23.cell? ⟨gb661,0,none⟩=some (.bool false):=(zaf BK661.out 0).trans rfl; have hcz24_1:w23.cell? ⟨gb661,1,none⟩=some (.string (⟨#[]⟩:ByteArray)):=(zaf BK661.out 1).trans rfl; have hcz24_2:w23.cell? ⟨gb661,2,none⟩=some (.string (⟨#[]⟩:ByteArray)):=(zaf BK661.out 2).trans rfl; have hfz24_0:=zad BK661.out 0; have hfz24_1:=zad BK661.out 1; have hfz24_2:=zad BK661.out 2))
       refine bodyPost_ret (zaC rfl _ _ gb661 76 #[.bool a0,.string (a1++t666),.string (⟨#[49]⟩:ByteArray)] (0,0) _ rfl (by (with_reducible repeat (first|refine zal ?_ _|refine zan ?_|refine zam ?_ _)); refine zaL (cs:=#[.bool a0,.string (a1++t666),.string (⟨#[]⟩:ByteArray)]) ?_ 2 _ rfl; (with_reducible repeat (first|refine zal ?_ _|refine zan ?_|refine zam ?_ _)); refine zaL (cs:=#[.bool a0,.string (⟨#[]⟩:ByteArray),.string (⟨#[]⟩:ByteArray)]) ?_ 1 _ rfl; (with_reducible repeat (first|refine zal ?_ _|refine zan ?_|refine zam ?_ _)); refine zaL (cs:=#[.bool false,.string (⟨#[]⟩:ByteArray),.string (⟨#[]⟩:ByteArray)]) ?_ 0 _ rfl; (with_reducible repeat (first|refine zal ?_ _|refine zan ?_|refine zam ?_ _)); exact BK661.out) Tryz.underlying76 rfl (by kernel_rfl)) rfl ?_
       exact ⟨by first|rfl|(simp [zak,zaj]<;>rfl)|(simp [*,zak,zaj]<;>rfl),by repeat (first|(with_reducible first|exact HB.out|apply zaa|apply zab|apply zae|refine zag ?_ GE661.out)|exact HB.out)⟩
      ·rw [if_neg c22] at H
       exact absurd H (by simp)
end Go.Proofs.ZQ
end
section
namespace Go.Proofs.ZQ
open Go.RowKit Go.Proofs.ZW.Wa Go.Proofs.ZW.Wb Go.Proofs.ZW.Wc Go.Proofs.ZP
theorem dec_dig:∀ (l:List UInt8),Dig l→∀ acc,Lib.decFrom acc l=some (acc*10^l.length+dval l)
 | [],_,acc=>by show some acc=_; simp [dval]
 | b :: r,hd,acc=>by
  have hb:=hd b List.mem_cons_self
  have hv:Lib.digitVal b=some (b.toNat-48):=if_pos hb
  show (match Lib.digitVal b with|some d=>Lib.decFrom (acc*10+d) r|none=>none)=_
  rw [hv]
  show Lib.decFrom (acc*10+(b.toNat-48)) r=_
  rw [dec_dig r (fun c hc=>hd c (List.mem_cons_of_mem _ hc)),zbE,List.length_cons,Nat.pow_succ,Nat.add_mul]
  have e:acc*(10^r.length*10)=acc*10*10^r.length:=by rw [Nat.mul_comm (10^r.length) 10,Nat.mul_assoc]
  rw [e,Nat.add_assoc]
theorem atoi_dig {s:ByteArray} (h0:0<s.size) (hd:Dig s.data.toList):Lib.atoi s.data.toList=some ((dval s.data.toList:Nat):Int):=by
 have hl:s.data.toList.length=s.size:=zah s
 generalize s.data.toList=l at *
 cases l with
 | nil=>simp at hl; omega
 | cons b r =>
  have hb:=hd b List.mem_cons_self
  have h1:(b == 45)=false:=beq_eq_false_iff_ne.2 (fun e=>by rw [e] at hb; revert hb; decide)
  have h2:(b == 43)=false:=beq_eq_false_iff_ne.2 (fun e=>by rw [e] at hb; revert hb; decide)
  show (if (b == 45)=true then _ else if (b == 43)=true then _ else (Lib.decNat (b :: r)).map fun (m:Nat)=>(m:Int))=_
  rw [h1,h2,if_neg (by decide),if_neg (by decide)]
  unfold Lib.decNat
  rw [if_neg (by simp),dec_dig _ hd 0]
  simp
def tenV (o:Option Int):Value:=match o with|none => .tuple #[.int .i64 0,.bool false]|some k => .tuple #[.int .i64 k,.bool true]
theorem ten_ans (n:Bool) (m x:ByteArray) (d:Bool) (p:Int) (g:ByteArray) (a:Int) (hp0:0≤p) (hp:p≤65536) (hx:x.size=0∨Dig x.data.toList):Ans 117 #[.agg #[.bool n,.string m,.string x,.bool d,.int .i64 p,.string g,.int .i64 a]] (tenV (tenP x d p)):=by
 intro w
 have hc:CtAt (w.alloc (.cells #[.bool n,.string m,.string x,.bool d,.int .i64 p,.string g,.int .i64 a] 120)) w.heap.size ⟨n,m,x,d,p,g,a⟩:=zau w _
 have HC:=Lib.hid hc
 have HB:=Lib.hid (zaa (Below.refl w.heap.size w) (.cells #[.bool n,.string m,.string x,.bool d,.int .i64 p,.string g,.int .i64 a] 120))
 clear hc
 by_cases h0:x.size=0
 ·have HT:=Lib.hid (show tenP x d p=some (0-p) from if_pos h0)
  have hne:=bs_nil h0
  have c2:=HC.out.c2
  have c3:=HC.out.c3
  have c4:=HC.out.c4
  clear hx
  go_enter Tryz.func117,Tryz.ntmps117
  cases d
  all_goals
   go_wp2
   go_ret2
   exact ⟨by rw [HT.out,Int.zero_sub]; rfl,HB.out⟩
 ·have hd:Dig x.data.toList:=hx.resolve_left h0
  obtain ⟨hne,hne2⟩:=bs_ne h0
  have hne3:¬ x.toList = []:=tl_ne (by omega)
  by_cases h4:4<x.size
  ·have HT:=Lib.hid (show tenP x d p=none from (if_neg h0).trans (if_pos h4))
   have b4:(4:Int)<(x.size:Int):=by omega
   have c2:=HC.out.c2
   clear hx
   go_enter Tryz.func117,Tryz.ntmps117
   go_wp2
   go_ret2
   exact ⟨by rw [HT.out]; rfl,HB.out⟩
  ·have b4:¬ (4:Int)<(x.size:Int):=by omega
   have HA:=Lib.hid (fun W=>Tryz.strconv_Atoi x _ (by omega) (atoi_dig (by omega) hd) W)
   have hlt:dval x.data.toList<10000:=Nat.lt_of_lt_of_le (dval_lt _ hd) (Nat.le_trans (Nat.pow_le_pow_right (by decide) (show x.data.toList.length≤4 by rw [zah]; omega)) (by decide))
   have HT:=Lib.hid (show tenP x d p=_ from (if_neg h0).trans (if_neg h4))
   generalize dval x.data.toList=v at *
   have c2:=HC.out.c2
   clear hx
   go_enter Tryz.func117,Tryz.ntmps117
   go_wp2_with fail
   refine (HA.out _).mono ?_
   rintro e w1 ⟨rfl,t,hw1⟩
   have hb1:Below (w.alloc (.cells #[.bool n,.string m,.string x,.bool d,.int .i64 p,.string g,.int .i64 a] 120)).heap.size (w.alloc (.cells #[.bool n,.string m,.string x,.bool d,.int .i64 p,.string g,.int .i64 a] 120)) w1:=by rw [hw1]; exact Go.Joins.below_bytesWorld _ _ _ _ (Nat.le_refl _)
   clear c2 hw1
   have HBZ:=Lib.hid (bthen HB.out hb1)
   have hc:=HC.out.below hb1
   have c3:=hc.c3
   have c4:=hc.c4
   clear hc hb1
   by_cases h9:4096<v
   ·have b9:(4096:Int)<(v:Int):=by omega
    go_wp2
    go_ret2
    exact ⟨by rw [HT.out,if_pos h9]; rfl,HBZ.out⟩
   ·have b9:¬ (4096:Int)<(v:Int):=by omega
    cases d
    all_goals
     go_wp2
     go_ret2
     exact ⟨by rw [HT.out,if_neg h9]; rfl,HBZ.out⟩
theorem scl_j0 (s:Bool) (M:Nat) (k:Int) (n:Nat) (hk0 : -100000≤k) (hk:k≤100000) (hM:(T M).size≤100000000):c2_Scaled.f n s (T M) k=c2_Scaled.j0 n s (T M) k (decide (600<(T M).size∨k ≤ -600∨(0<k∧M≠0∧600<((T M).size:Int)+k))):=by
 unfold c2_Scaled.f
 by_cases h1:600<(T M).size
 ·rw [if_pos (show ((T M).size:Int)>600 by omega),decide_eq_true (Or.inl h1)]
 ·rw [if_neg (show ¬ ((T M).size : Int) > 600 by omega)]
  by_cases h2:k ≤ -600
  ·rw [if_pos h2,decide_eq_true (Or.inr (Or.inl h2))]
  ·rw [if_neg h2]
   by_cases h3:0<k
   ·rw [if_pos (show k>0 from h3)]
    by_cases h4:M=0
    ·rw [if_pos (T_is0.2 h4),decide_eq_false]
     rintro (h|h|⟨_,h,_⟩)
     ·exact h1 h
     ·exact h2 h
     ·exact h h4
    ·rw [if_neg (fun e=>h4 (T_is0.1 e)),show wrap64 (((T M).size:Int)+k)=((T M).size:Int)+k by unfold wrap64; omega]
     refine congrArg _ (decide_eq_decide.2 ⟨fun h=>Or.inr (Or.inr ⟨h3,h4,h⟩),?_⟩)
     rintro (h|h|⟨_,_,h⟩)
     ·exact absurd h h1
     ·exact absurd h h2
     ·exact h
   ·rw [if_neg (show ¬ k>0 from h3),decide_eq_false]
    rintro (h|h|⟨h,_⟩)
    ·exact h1 h
    ·exact h2 h
    ·exact h3 h
theorem scl_ev (s:Bool) (M:Nat) (k:Int) (hk0 : -100000≤k) (hk:k≤100000) (hM:(T M).size≤100000000):Ev (fun n=>c2_Scaled.f n s (T M) k) (match sclP s M k with|none=>(false,⟨#[]⟩,⟨#[]⟩,false)|some x=>((Fr x).1,(Fr x).2.1,(Fr x).2.2,true)):=by
 refine ⟨1,fun n hn => ?_⟩
 obtain ⟨n,rfl⟩:∃ m,n=m+1:=⟨n-1,by omega⟩
 show c2_Scaled.f (n+1) s (T M) k=_
 rw [scl_j0 s M k (n+1) hk0 hk hM]
 simp only [c2_Scaled.j0]
 unfold sclP
 by_cases h:600<(T M).size∨k ≤ -600∨(0<k∧M≠0∧600<((T M).size:Int)+k)
 ·rw [decide_eq_true h,if_pos rfl,if_pos h]
 ·rw [decide_eq_false h,if_neg (by decide),if_neg h]
  by_cases hn2:k<0
  ·obtain ⟨j,hj⟩:∃ j:Nat,k = -(j:Int):=⟨k.natAbs,by omega⟩
   have hw:wrap64 (-k)=(j:Int):=by unfold wrap64; omega
   have hja:k.natAbs=j:=by omega
   rw [if_pos hn2,if_pos hn2,hw,Zeros_n j (by omega),Option.bind_some,if_pos (by rw [←zer_eq,zer_sz]; omega),hja]
   have hL:=lowest_T s M (10^j) (Nat.pow_pos (by decide)) (by omega) (by rw [T_ten_size]; omega)
   rw [←T_ten] at hL
   rw [show ((⟨#[49]⟩:ByteArray)++zer j)=(⟨#[49]⟩:ByteArray)++ZP.zer j from rfl,hL]
   rfl
  ·rw [if_neg hn2,if_neg hn2]
   show _=some ((Fr _).1,(Fr _).2.1,(Fr _).2.2,true)
   rw [fr_up]
   by_cases h0:M=0
   ·rw [if_pos (T_is0.2 h0),h0,Nat.zero_mul]
    rw [T_0,T_1]; simp
   ·obtain ⟨j,hj⟩:∃ j:Nat,k=(j:Int):=⟨k.natAbs,by omega⟩
    subst hj
    rw [if_neg (fun e=>h0 (T_is0.1 e)),Zeros_n j (by omega),Option.bind_some,if_pos (by rw [←zer_eq,zer_sz]; omega),Int.natAbs_natCast]
    rw [show T M++zer j=T M++ZP.zer j from rfl,T_shift h0,T_1]
    have hp:=Nat.pow_pos (n:=j) (show 0<10 by decide)
    have h5:M*10^j≠0:=Nat.mul_ne_zero h0 (by omega)
    simp [h5]
theorem scl_ans (s:Bool) (M:Nat) (k:Int) (hk0 : -100000≤k) (hk:k≤100000) (hM:(T M).size≤100000000):Ans 118 #[.bool s,.string (T M),.int .i64 k] (match sclP s M k with|none => .tuple #[.agg #[.bool false,.string ⟨#[]⟩,.string ⟨#[]⟩],.bool false]|some x => .tuple #[FrV x,.bool true]):=fun W=>by
 obtain ⟨n,hn⟩:=(scl_ev s M k hk0 hk hM).rounds
 cases hs:sclP s M k with
 | none=>rw [hs] at hn; exact c2_Scaled.calls n s (T M) k _ _ _ _ W hn
 | some x=>rw [hs] at hn; exact c2_Scaled.calls n s (T M) k _ _ _ _ W hn
theorem getD_chr {s:ByteArray} {i:Nat} (h:i<s.size):s.data.toList.getD i 0=s[i]'h:=by
 rw [List.getD_eq_getElem?_getD]
 have:=chr_at h
 unfold chr at this
 rw [this]; rfl
theorem isC_at {s:ByteArray} {i:Nat} {c:UInt8} (h:i<s.size):isC s i c=decide (s.data.toList.getD i 0=c):=by
 unfold isC
 rw [chr_at h,getD_chr h]
 by_cases e:s[i]'h=c
 ·rw [e]; simp
 ·simp [e]
theorem isC_out {s:ByteArray} {i:Nat} {c:UInt8} (h:¬ i<s.size):isC s i c=false:=by
 unfold isC
 rw [chr_out h]; rfl
theorem sgB_one {s:ByteArray} {f:ZP.Fm} {c:UInt8} (hb:f.bad=false):f.sgB s ⟨#[c]⟩=isC s f.at_ c:=by
 unfold ZP.Fm.sgB
 rw [hb]
 by_cases h:f.at_<s.size
 ·rw [isC_at h,decide_eq_true h]
  simp
 ·rw [isC_out h,decide_eq_false h]
  simp
theorem sgB_two {s:ByteArray} {f:ZP.Fm} {c d:UInt8} (hb:f.bad=false):f.sgB s ⟨#[c,d]⟩=(isC s f.at_ c || isC s f.at_ d):=by
 unfold ZP.Fm.sgB
 rw [hb]
 by_cases h:f.at_<s.size
 ·rw [isC_at h,isC_at h,decide_eq_true h]
  simp
 ·rw [isC_out h,isC_out h,decide_eq_false h]
  simp
theorem sgB_bad {s set:ByteArray} {f:ZP.Fm} (hb:f.bad=true):f.sgB s set=false:=by
 unfold ZP.Fm.sgB
 rw [hb]; rfl
theorem isC_val {s:ByteArray} {i:Nat} {c:UInt8} (h:isC s i c=true):s.data.toList.getD i 0=c:=by
 have hl:=(show i<s.size from by
  by_cases hp:i<s.size
  ·exact hp
  ·rw [isC_out hp] at h; exact absurd h (by decide))
 rw [isC_at hl] at h
 exact of_decide_eq_true h
theorem sgV_one {s:ByteArray} {f:ZP.Fm} {c:UInt8} (hb:f.bad=false) (hc:c.toNat≠0):f.sgV s ⟨#[c]⟩=0↔isC s f.at_ c=false:=by
 unfold ZP.Fm.sgV
 rw [sgB_one hb]
 cases h:isC s f.at_ c
 ·simp
 ·rw [isC_val h]
  simp
  omega
theorem sgV_two {s:ByteArray} {f:ZP.Fm} {c d:UInt8} (hb:f.bad=false) (hc:c.toNat≠0) (hd:d.toNat≠0):f.sgV s ⟨#[c,d]⟩=0↔(isC s f.at_ c || isC s f.at_ d)=false:=by
 unfold ZP.Fm.sgV
 rw [sgB_two hb]
 cases h:isC s f.at_ c
 ·cases h2:isC s f.at_ d
  ·simp
  ·rw [isC_val h2]
   simp
   omega
 ·rw [isC_val h]
  simp
  omega
theorem sgV_bad {s set:ByteArray} {f:ZP.Fm} (hb:f.bad=true):f.sgV s set=0:=by
 unfold ZP.Fm.sgV
 rw [sgB_bad hb]; rfl
theorem sgV_minus {s:ByteArray} {f:ZP.Fm} (hb:f.bad=false):(f.sgV s ZP.cPM == 45)=isC s f.at_ 45:=by
 unfold ZP.Fm.sgV
 rw [show ZP.cPM=⟨#[43,45]⟩ from rfl,sgB_two hb]
 cases h:isC s f.at_ 45
 ·cases h2:isC s f.at_ 43
  ·rfl
  ·rw [isC_val h2]; rfl
 ·rw [isC_val h]
  simp
theorem form1_eq (s:ByteArray):ZP.form1 s=⟨rn s (sgA s),decide (rn s (sgA s)=sgA s),isC s 0 45,s.extract (sgA s) (rn s (sgA s)),0,⟨#[]⟩,false,⟨#[]⟩,false,0⟩:=by
 have hv:(ZP.F0.sgV s ZP.cM != 0)=isC s 0 45:=by
  have h:=sgV_one (s:=s) (f:=ZP.F0) (c:=45) rfl (by decide)
  cases hc:isC s 0 45
  ·have h0:=h.2 hc
   rw [show ZP.cM=⟨#[45]⟩ from rfl,h0]; rfl
  ·have h0:¬ ZP.F0.sgV s ⟨#[45]⟩=0:=fun e=>by have:=h.1 e; rw [show ZP.F0.at_=0 from rfl,hc] at this; exact absurd this (by decide)
   rw [show ZP.cM=⟨#[45]⟩ from rfl,bne_iff_ne]
   exact h0
 have hs:ZP.F0.sgn s ZP.cM = { ZP.F0 with at_:=sgA s }:=by
  unfold ZP.Fm.sgn
  rw [show ZP.cM=⟨#[45]⟩ from rfl,sgB_one rfl]
  unfold sgA
  rw [show ZP.F0.at_=0 from rfl]
  cases isC s 0 45<;>rfl
 unfold ZP.form1
 rw [hv,hs]
 unfold ZP.Fm.dig ZP.Fm.digT
 simp [ZP.F0]
theorem bare_nil:bareT ⟨#[]⟩=⟨#[]⟩:=rfl
def Same (s:ByteArray) (f:ZP.Fm) (r:Ct×Int):Prop:=(f.end_ s=true→r=(⟨f.neg,bareT f.m,bareT f.exp,f.minus,(f.behind:Int),bareT f.den,(f.slash:Int)⟩,-1))∧(f.end_ s=false→r.2=((f.at_:Nat):Int))
theorem same_bad {s:ByteArray} {f:ZP.Fm} {r:Ct×Int} (hb:f.bad=true) (hr:r.2=((f.at_:Nat):Int)):Same s f r:=by
 refine ⟨fun h => ?_,fun _=>hr⟩
 unfold ZP.Fm.end_ at h
 rw [hb] at h
 exact absurd h (by simp)
theorem finF_same {s:ByteArray} {f:ZP.Fm} (hb:f.bad=false) (hs:f.at_≤s.size) {x g:ByteArray} (hx:x=bareT f.exp) (hg:g=bareT f.den):Same s f (finF s ⟨f.neg,f.m,x,f.minus,(f.behind:Int),g,(f.slash:Int)⟩ f.at_):=by
 subst hx
 subst hg
 by_cases h:f.at_<s.size
 ·rw [finF_yes h]
  refine ⟨fun he => ?_,fun _=>rfl⟩
  unfold ZP.Fm.end_ at he
  rw [hb,decide_eq_false (by omega)] at he
  exact absurd he (by simp)
 ·rw [finF_no h]
  refine ⟨fun _=>rfl,fun he => ?_⟩
  unfold ZP.Fm.end_ at he
  rw [hb,decide_eq_true (by omega)] at he
  exact absurd he (by simp)
theorem sgF_same {s:ByteArray} {f:ZP.Fm} (hb:f.bad=false) (hs:f.at_≤s.size) (hg:f.den=⟨#[]⟩) (x:ByteArray) (hx:x=⟨#[]⟩):Same s { f.dig s with exp:=f.digT s } (sgF s ⟨f.neg,f.m,x,f.minus,(f.behind:Int),⟨#[]⟩,(f.slash:Int)⟩ f.at_):=by
 obtain ⟨at_,bad,neg,m,behind,exp,minus,den,fraction,slash⟩:=f
 simp only at hb hs hg
 subst hb
 subst hx
 subst hg
 by_cases hr:ZP.runN s.data.toList at_=at_
 ·refine same_bad ?_ ?_
  ·show (false || decide (ZP.runN s.data.toList at_=at_))=true
   rw [decide_eq_true hr]; rfl
  ·show (sgF s _ at_).2=((ZP.runN s.data.toList at_:Nat):Int)
   rw [sgF_stop hr,hr]
 ·show Same s _ (sgF s _ at_)
  rw [sgF_go rfl hr]
  have hbad:(false || decide (ZP.runN s.data.toList at_=at_))=false:=by rw [decide_eq_false hr]; rfl
  exact finF_same (f:=⟨ZP.runN s.data.toList at_,(false || decide (ZP.runN s.data.toList at_=at_)),neg,m,behind,s.extract at_ (ZP.runN s.data.toList at_),minus,⟨#[]⟩,fraction,slash⟩) hbad (rn_le hs) rfl bare_nil.symm
theorem expF_same {s:ByteArray} {f:ZP.Fm} (hb:f.bad=false) (hs:f.at_≤s.size) (hx:f.exp=⟨#[]⟩) (hm:f.minus=false) (hg:f.den=⟨#[]⟩):Same s (ZP.formE s f) (expF s ⟨f.neg,f.m,⟨#[]⟩,false,(f.behind:Int),⟨#[]⟩,(f.slash:Int)⟩ f.at_):=by
 obtain ⟨at_,bad,neg,m,behind,exp,minus,den,fraction,slash⟩:=f
 simp only at hb hs hx hm hg
 subst hb
 subst hx
 subst hm
 subst hg
 unfold ZP.formE
 have h1:=sgV_two (s:=s) (f:=⟨at_,false,neg,m,behind,⟨#[]⟩,false,⟨#[]⟩,fraction,slash⟩) (c:=101) (d:=69) rfl (by decide) (by decide)
 have h2:=sgB_two (s:=s) (f:=⟨at_,false,neg,m,behind,⟨#[]⟩,false,⟨#[]⟩,fraction,slash⟩) (c:=101) (d:=69) rfl
 cases he:(isC s at_ 101 || isC s at_ 69)
 ·rw [show ZP.cE=⟨#[101,69]⟩ from rfl,if_pos (h1.2 he),expF_no he]
  unfold ZP.Fm.sgn
  rw [h2,he]
  exact finF_same (f:=⟨at_,false,neg,m,behind,⟨#[]⟩,false,⟨#[]⟩,fraction,slash⟩) rfl hs bare_nil.symm bare_nil.symm
 ·rw [show ZP.cE=⟨#[101,69]⟩ from rfl,if_neg (fun e=>by have:=h1.1 e; rw [he] at this; exact absurd this (by decide))]
  have hsg:ZP.Fm.sgn s ⟨#[101,69]⟩ ⟨at_,false,neg,m,behind,⟨#[]⟩,false,⟨#[]⟩,fraction,slash⟩=⟨at_+1,false,neg,m,behind,⟨#[]⟩,false,⟨#[]⟩,fraction,slash⟩:=by
   unfold ZP.Fm.sgn
   rw [h2,he]; rfl
  rw [hsg]
  have hlt:at_<s.size:=by
   rw [Bool.or_eq_true] at he
   exact he.elim zbQ zbQ
  have hmi:=sgV_minus (s:=s) (f:=⟨at_+1,false,neg,m,behind,⟨#[]⟩,false,⟨#[]⟩,fraction,slash⟩) rfl
  have h3:=sgB_two (s:=s) (f:=⟨at_+1,false,neg,m,behind,⟨#[]⟩,false,⟨#[]⟩,fraction,slash⟩) (c:=43) (d:=45) rfl
  cases hp:(isC s (at_+1) 43 || isC s (at_+1) 45)
  ·have h45:isC s (at_+1) 45=false:=by
    rw [Bool.or_eq_false_iff] at hp
    exact hp.2
   have hgn:ZP.Fm.sgn s ZP.cPM ⟨at_+1,false,neg,m,behind,⟨#[]⟩,false,⟨#[]⟩,fraction,slash⟩=⟨at_+1,false,neg,m,behind,⟨#[]⟩,false,⟨#[]⟩,fraction,slash⟩:=by
    unfold ZP.Fm.sgn
    rw [show ZP.cPM=⟨#[43,45]⟩ from rfl,h3,hp]; rfl
   simp only [hgn,hmi,h45]
   rw [expF_ns he rfl hp]
   exact sgF_same (f:=⟨at_+1,false,neg,m,behind,⟨#[]⟩,false,⟨#[]⟩,fraction,slash⟩) rfl hlt rfl _ rfl
  ·have hlt2:at_+1<s.size:=by
    rw [Bool.or_eq_true] at hp
    exact hp.elim zbQ zbQ
   have hgn:ZP.Fm.sgn s ZP.cPM ⟨at_+1,false,neg,m,behind,⟨#[]⟩,false,⟨#[]⟩,fraction,slash⟩=⟨at_+1+1,false,neg,m,behind,⟨#[]⟩,false,⟨#[]⟩,fraction,slash⟩:=by
    unfold ZP.Fm.sgn
    rw [show ZP.cPM=⟨#[43,45]⟩ from rfl,h3,hp]; rfl
   simp only [hgn,hmi]
   rw [expF_sg he rfl hp rfl rfl]
   exact sgF_same (f:=⟨at_+1+1,false,neg,m,behind,⟨#[]⟩,isC s (at_+1) 45,⟨#[]⟩,fraction,slash⟩) rfl hlt2 rfl _ rfl
theorem sgn_bad {s set:ByteArray} {f:ZP.Fm} (hb:f.bad=true):f.sgn s set=f:=by
 unfold ZP.Fm.sgn
 rw [sgB_bad hb]; rfl
theorem formE_bad {s:ByteArray} {f:ZP.Fm} (hb:f.bad=true):ZP.formE s f=f:=by
 unfold ZP.formE
 rw [if_pos (sgV_bad hb),sgn_bad hb]
theorem formP_bad {s:ByteArray} {f:ZP.Fm} (hb:f.bad=true):ZP.formP s f=f:=by
 unfold ZP.formP
 rw [if_pos (sgV_bad hb),sgn_bad hb]
theorem sgn_one {s:ByteArray} {f:ZP.Fm} {c:UInt8} (hb:f.bad=false):f.sgn s ⟨#[c]⟩=if isC s f.at_ c then { f with at_:=f.at_+1 } else f:=by
 unfold ZP.Fm.sgn
 rw [sgB_one hb]
theorem ptF_same {s:ByteArray} {f:ZP.Fm} (hb:f.bad=false) (hs:f.at_≤s.size) (hx:f.exp=⟨#[]⟩) (hm:f.minus=false) (hg:f.den=⟨#[]⟩) (h0:f.behind=0):Same s (ZP.formE s (ZP.formP s f)) (ptF s ⟨f.neg,f.m,⟨#[]⟩,false,0,⟨#[]⟩,(f.slash:Int)⟩ f.at_):=by
 obtain ⟨at_,bad,neg,m,behind,exp,minus,den,fraction,slash⟩:=f
 simp only at hb hs hx hm hg h0
 subst hb
 subst hx
 subst hm
 subst hg
 subst h0
 have h1:=sgV_one (s:=s) (f:=⟨at_,false,neg,m,0,⟨#[]⟩,false,⟨#[]⟩,fraction,slash⟩) (c:=46) rfl (by decide)
 have h2:=sgn_one (s:=s) (f:=⟨at_,false,neg,m,0,⟨#[]⟩,false,⟨#[]⟩,fraction,slash⟩) (c:=46) rfl
 unfold ZP.formP
 cases he:isC s at_ 46
 ·rw [show ZP.cP=⟨#[46]⟩ from rfl,if_pos (h1.2 he),ptF_no he,h2,if_neg (by rw [he]; decide)]
  exact expF_same (f:=⟨at_,false,neg,m,0,⟨#[]⟩,false,⟨#[]⟩,fraction,slash⟩) rfl hs rfl rfl rfl
 ·rw [show ZP.cP=⟨#[46]⟩ from rfl,if_neg (fun e=>by have:=h1.1 e; rw [he] at this; exact absurd this (by decide)),h2,if_pos he]
  have hlt:=zbQ he
  by_cases hr:ZP.runN s.data.toList (at_+1)=at_+1
  ·rw [ptF_stop he rfl hr]
   have hbad:(false || decide (ZP.runN s.data.toList (at_+1)=at_+1))=true:=by rw [decide_eq_true hr]; rfl
   rw [formE_bad hbad]
   refine same_bad hbad ?_
   show ((at_+1:Nat):Int)=((ZP.runN s.data.toList (at_+1):Nat):Int)
   rw [hr]
  ·have hbad:(false || decide (ZP.runN s.data.toList (at_+1)=at_+1))=false:=by rw [decide_eq_false hr]; rfl
   rw [ptF_go he rfl rfl hr]
   have hrl:ZP.runN s.data.toList (at_+1)≤s.size:=rn_le hlt
   have hrg:at_+1≤ZP.runN s.data.toList (at_+1):=ZP.runN_ge _ _
   have hz:((ZP.runN s.data.toList (at_+1):Nat):Int)-((at_+1:Nat):Int)=(((s.extract (at_+1) (ZP.runN s.data.toList (at_+1))).size:Nat):Int):=by
    rw [ByteArray.size_extract]
    omega
   rw [hz]
   exact expF_same (f:=⟨ZP.runN s.data.toList (at_+1),(false || decide (ZP.runN s.data.toList (at_+1)=at_+1)),neg,m++s.extract (at_+1) (ZP.runN s.data.toList (at_+1)),(s.extract (at_+1) (ZP.runN s.data.toList (at_+1))).size,⟨#[]⟩,false,⟨#[]⟩,fraction,slash⟩) hbad hrl rfl rfl rfl
theorem fr_at (s:ByteArray) (A E:Nat) (hA:sgA s=A) (hE:ZP.runN s.data.toList A=E):formR s=if E=A then (Ct.zero (isC s 0 45),((A:Nat):Int)) else if isC s E 47 then slF s (isC s 0 45) A E (rn s (E+1)) else ptF s ⟨isC s 0 45,s.extract A E,⟨#[]⟩,false,0,⟨#[]⟩,0⟩ E:=by
 subst hA
 subst hE
 rfl
theorem form_same (s:ByteArray):Same s (ZP.formF s) (formR s):=by
 unfold ZP.formF
 rw [form1_eq,fr_at s (sgA s) (rn s (sgA s)) rfl rfl]
 have hE:rn s (sgA s)≤s.size:=rn_le (by
  unfold sgA
  split
  ·rename_i h; have:=zbQ h; omega
  ·omega)
 generalize sgA s=A at *
 generalize rn s A=E at *
 by_cases hEA:E=A
 ·have hbad:decide (E=A)=true:=decide_eq_true hEA
  rw [if_pos hEA,if_pos (sgV_bad hbad),sgn_bad hbad,formP_bad hbad,formE_bad hbad]
  exact same_bad hbad (by show ((A:Nat):Int)=((E:Nat):Int); rw [hEA])
 ·have hbad:decide (E=A)=false:=decide_eq_false hEA
  rw [if_neg hEA,hbad]
  have h1:=sgV_one (s:=s) (f:=⟨E,false,isC s 0 45,s.extract A E,0,⟨#[]⟩,false,⟨#[]⟩,false,0⟩) (c:=47) rfl (by decide)
  have h2:=sgn_one (s:=s) (f:=⟨E,false,isC s 0 45,s.extract A E,0,⟨#[]⟩,false,⟨#[]⟩,false,0⟩) (c:=47) rfl
  generalize isC s 0 45=b0 at *
  cases he:isC s E 47
  ·rw [show ZP.cS=⟨#[47]⟩ from rfl,if_pos (h1.2 he),h2,if_neg (by rw [he]; decide),if_neg (by decide)]
   exact ptF_same (f:=⟨E,false,b0,s.extract A E,0,⟨#[]⟩,false,⟨#[]⟩,false,0⟩) rfl hE rfl rfl rfl rfl
  ·rw [show ZP.cS=⟨#[47]⟩ from rfl,if_neg (fun e=>by have:=h1.1 e; rw [he] at this; exact absurd this (by decide)),if_pos rfl]
   unfold ZP.formS
   rw [show ZP.cS=⟨#[47]⟩ from rfl,h2,if_pos he]
   have hlt:=zbQ he
   have hrl:ZP.runN s.data.toList (E+1)≤s.size:=rn_le hlt
   by_cases hr:ZP.runN s.data.toList (E+1)=E+1
   ·rw [slF_yes rfl (Or.inl hr)]
    refine same_bad ?_ rfl
    show (false || decide (ZP.runN s.data.toList (E+1)=E+1))=true
    rw [decide_eq_true hr]; rfl
   ·have hb2:(false || decide (ZP.runN s.data.toList (E+1)=E+1))=false:=by rw [decide_eq_false hr]; rfl
    by_cases hz:ZP.runN s.data.toList (E+1)<s.size
    ·rw [slF_yes rfl (Or.inr hz)]
     refine ⟨fun h => ?_,fun _=>rfl⟩
     have h9:(!(false || decide (ZP.runN s.data.toList (E+1)=E+1)) && decide (ZP.runN s.data.toList (E+1)=s.size))=true:=h
     rw [hb2,decide_eq_false (by omega)] at h9
     exact absurd h9 (by decide)
    ·rw [slF_no rfl hr hz]
     refine ⟨fun _=>rfl,fun h => ?_⟩
     have h9:(!(false || decide (ZP.runN s.data.toList (E+1)=E+1)) && decide (ZP.runN s.data.toList (E+1)=s.size))=false:=h
     rw [hb2,decide_eq_true (by omega)] at h9
     exact absurd h9 (by decide)
end Go.Proofs.ZQ
end
