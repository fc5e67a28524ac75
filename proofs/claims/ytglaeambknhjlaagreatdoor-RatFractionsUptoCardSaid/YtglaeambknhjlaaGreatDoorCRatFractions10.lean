/- Texts under the proof, joined by a program (prune.py): QRatNew, P96, SRef, HText, P95, SPlus. -/
import Derived.Test.YtglaeambknhjlaaGreatDoorCRatFractions09
import Derived.Test.YtglaeambknhjlaaGreatDoorCRatFractions02
import Derived.Test.YtglaeambknhjlaaGreatDoorCRatFractions08
import Derived.Test.YtglaeambknhjlaaGreatDoorCRatFractions07
set_option linter.unusedVariables false
set_option linter.unusedSimpArgs false
set_option exponentiation.threshold 20001
set_option maxHeartbeats 8000000
set_option maxRecDepth 100000
section
namespace Go.Proofs.ZQ
open Go.RowKit Go.Proofs.ZW.Wa Go.Proofs.ZP
theorem ba_loop (s:ByteArray):∀ (d i:Nat) (r:List UInt8),d=s.size-i→ByteArray.toList.loop s i r=r.reverse++s.data.toList.drop i:=by
 have hl:s.data.toList.length=s.size:=zaq s
 intro d
 induction d with
 | zero=>intro i r h; rw [ByteArray.toList.loop,if_neg (by omega),List.drop_eq_nil_of_le (by omega),List.append_nil]
 | succ d ih =>
  intro i r h
  have hi:i<s.data.toList.length:=by omega
  have hg:s.get! i=s.data.toList[i]:=by
   show s.data[i]! = _
   rw [getElem!_pos s.data i (by simpa using hi),Array.getElem_toList]
  rw [ByteArray.toList.loop,if_pos (by omega),ih (i+1) _ (by omega),List.drop_eq_getElem_cons hi,hg]
  simp
theorem ba_toList (s:ByteArray):s.toList=s.data.toList:=by
 unfold ByteArray.toList
 rw [ba_loop s s.size 0 [] (by omega)]; rfl
end Go.Proofs.ZQ
end
section
namespace Go.Proofs.ZP
open Go.RowKit Go.Proofs.ZW.Wa Go.Proofs.ZW.Wb Go.Proofs.ZW.Wc
attribute [local go_sem] zaI zaG zaP zaO zaA zaz zaH zaF
def c1_Of.l0:Nat→Int→ByteArray→Option (ByteArray)
 | 0,_,_=>none
 | k+1,x0,x3=>if x0>9 then ((some (([(IntKind.u64.wrap (48+(Int.tmod x0 10)))%256]:List Int):List Int)).bind fun y257=>(if (strOfNums y257).size+x3.size≤9223372036854775807 then (c1_Of.l0 k (IntKind.u64.wrap (Int.tdiv x0 10)) ((strOfNums y257)++x3)) else (none))) else ((some (([(IntKind.u64.wrap (48+x0))%256]:List Int):List Int)).bind fun y260=>(if (strOfNums y260).size+x3.size≤9223372036854775807 then (some ((strOfNums y260)++x3)) else (none)))
def c1_Of.f (k:Nat) (a0:Int):Option (ByteArray):=c1_Of.l0 k a0 (⟨#[]⟩:ByteArray)
theorem c1_Of.calls (k:Nat) (a0:Int) (r:ByteArray) (w:World) (h:c1_Of.f k a0=some r) :
  Calls Tryz.prog 148 #[.int .u64 a0] w fun e w'=>e = .returned (.string r)∧Below w.heap.size w w':=by
 have HB:=Aside0.mk (Below.refl w.heap.size w)
 have H:(c1_Of.l0 k a0 (⟨#[]⟩:ByteArray))=some r:=h
 clear h
 have H':=Aside0.mk H
 clear H
 go_enter Tryz.func148,Tryz.ntmps148
 go_wp2
 go_loopg [0,3] k (fun kq v0 v3 w'=>∃ (x0_1:Int) (x3_1:ByteArray),v0 = .int .u64 x0_1∧v3 = .string x3_1∧Aside0 (c1_Of.l0 kq x0_1 x3_1=some r)∧Aside0 (kq≤k)∧Aside0 (Below w.heap.size w w'))
 case atStart=>exact ⟨(a0),((⟨#[]⟩:ByteArray)),(by first|rfl|(simp; done)|(simp [*]; done)),(by first|rfl|(simp; done)|(simp [*]; done)),H',⟨Nat.le_refl _⟩,⟨by repeat (first|(with_reducible first|exact HB.out|apply zaa|apply zab|apply zac)|exact HB.out)⟩⟩
 case round =>
  clear H'
  try clear c1
  obtain ⟨x0_1,x3_1,rfl,rfl,HA,HK1,HB⟩:=hrel
  cases gk with
  | zero=>exact absurd HA.out (by simp [c1_Of.l0])
  | succ k1 =>
   have H:=HA.out
   clear HA
   simp only [c1_Of.l0] at H
   by_cases c2:x0_1>9
   ·rw [if_pos c2] at H
    have c2b0:decide (9<x0_1)=true:=decide_eq_true c2
    clear c2
    obtain ⟨y257,hy257⟩:∃ y_:List Int,y_=(([(IntKind.u64.wrap (48+(Int.tmod x0_1 10)))%256]:List Int)):=⟨_,rfl⟩
    replace H:(if (strOfNums y257).size+x3_1.size≤9223372036854775807 then (c1_Of.l0 k1 (IntKind.u64.wrap (Int.tdiv x0_1 10)) ((strOfNums y257)++x3_1)) else (none))=some r:=by first|(rw [hy257]; with_reducible exact H)|(have H2_:=(Option.bind_some _ _).symm.trans H; rw [hy257]; with_reducible exact H2_)|(have H2_:=(Option.bind_some _ _).symm.trans H; with_reducible exact H2_)|with_reducible exact H|(rw [hy257]; exact H)|exact H
    have Ny257:=Aside0.mk hy257
    clear hy257
    by_cases c3:(strOfNums y257).size+x3_1.size≤9223372036854775807
    ·rw [if_pos c3] at H
     have c3b0:=eq_true c3
     have c3b1:decide ((strOfNums y257).size+x3_1.size≤9223372036854775807)=true:=decide_eq_true c3
     try have c3b2:(9223372036854775807<(strOfNums y257).size+x3_1.size)=False:=eq_false (Nat.not_lt.2 c3)
     have H':=Aside0.mk H
     clear H
     go_wp2_with (first|((with_reducible refine zaZ (N:=10) rfl ?_); refine Kd.R_lit (Kd.int .u8) _ 5 ?hg (N:=10) ?hd (xs:=([(IntKind.u64.wrap (48+(Int.tmod x0_1 10)))%256]:List Int)) (inner:=[.int .u8 ((IntKind.u64.wrap (48+(Int.tmod x0_1 10)))%256)]) (ok:=fun _=>True) (okp:=fun _=>True) ?hr ?hp (fun _ hk=>hk) trivial (Below.refl _ _) (Nat.le_refl _) (by simp) ?_; (case hd=>rfl); (case hg=>rfl); (case hr=>first|(go_simp; done)|(go_simp; rfl)); (case hp=>exact (Reps.one (show Kd.M (Kd.int .u8) _ _ _ ((IntKind.u64.wrap (48+(Int.tmod x0_1 10)))%256) [.int .u8 ((IntKind.u64.wrap (48+(Int.tmod x0_1 10)))%256)] from rfl) (Reps.none _ _))); intro v258 w4 ho5 hb hg_ hnew_; clear hg_ hnew_; (first|rw [←Ny257.out] at ho5|(simp only [Int.reduceToNat] at ho5; rw [←Ny257.out] at ho5)); have n0_:=Aside0.mk (Kd.R_lower ho5 (zao (by repeat (first|(with_reducible first|exact HB.out|apply zaa|apply zab|apply zac)|exact HB.out)))); have n1_:=Aside0.mk (zam (by repeat (first|(with_reducible first|exact HB.out|apply zaa|apply zab|apply zac)|exact HB.out)) hb); clear HB; have HO259:=n0_; have HB:=n1_; clear n0_ n1_; clear hb ho5; have hcv6:=zcR (P:=Tryz.prog) Tryz.underlying95 Tryz.underlying5 Tryz.underlying9 (Kd.own_of_R HO259.out)))
     go_roundg k1
     case measure=>have:=HK1.out; omega
     case rel=>exact ⟨(IntKind.u64.wrap (Int.tdiv x0_1 10)),((strOfNums y257)++x3_1),(by first|rfl|(simp; done)|(simp [*]; done)),(by first|rfl|(simp; done)|(simp [*]; done)),H',⟨by have:=HK1.out; omega⟩,⟨by repeat (first|(with_reducible first|exact HB.out|apply zaa|apply zab|apply zac)|exact HB.out)⟩⟩
    ·rw [if_neg c3] at H
     exact absurd H (by simp)
   ·rw [if_neg c2] at H
    have c2b0:decide (9<x0_1)=false:=decide_eq_false c2
    clear c2
    obtain ⟨y260,hy260⟩:∃ y_:List Int,y_=(([(IntKind.u64.wrap (48+x0_1))%256]:List Int)):=⟨_,rfl⟩
    replace H:(if (strOfNums y260).size+x3_1.size≤9223372036854775807 then (some ((strOfNums y260)++x3_1)) else (none))=some r:=by first|(rw [hy260]; with_reducible exact H)|(have H2_:=(Option.bind_some _ _).symm.trans H; rw [hy260]; with_reducible exact H2_)|(have H2_:=(Option.bind_some _ _).symm.trans H; with_reducible exact H2_)|with_reducible exact H|(rw [hy260]; exact H)|exact H
    have Ny260:=Aside0.mk hy260
    clear hy260
    by_cases c7:(strOfNums y260).size+x3_1.size≤9223372036854775807
    ·rw [if_pos c7] at H
     have c7b0:=eq_true c7
     have c7b1:decide ((strOfNums y260).size+x3_1.size≤9223372036854775807)=true:=decide_eq_true c7
     try have c7b2:(9223372036854775807<(strOfNums y260).size+x3_1.size)=False:=eq_false (Nat.not_lt.2 c7)
     obtain rfl:=Option.some.inj H
     go_wp2_with (first|((with_reducible refine zaZ (N:=19) rfl ?_); refine Kd.R_lit (Kd.int .u8) _ 5 ?hg (N:=19) ?hd (xs:=([(IntKind.u64.wrap (48+x0_1))%256]:List Int)) (inner:=[.int .u8 ((IntKind.u64.wrap (48+x0_1))%256)]) (ok:=fun _=>True) (okp:=fun _=>True) ?hr ?hp (fun _ hk=>hk) trivial (Below.refl _ _) (Nat.le_refl _) (by simp) ?_; (case hd=>rfl); (case hg=>rfl); (case hr=>first|(go_simp; done)|(go_simp; rfl)); (case hp=>exact (Reps.one (show Kd.M (Kd.int .u8) _ _ _ ((IntKind.u64.wrap (48+x0_1))%256) [.int .u8 ((IntKind.u64.wrap (48+x0_1))%256)] from rfl) (Reps.none _ _))); intro v261 w8 ho9 hb hg_ hnew_; clear hg_ hnew_; (first|rw [←Ny260.out] at ho9|(simp only [Int.reduceToNat] at ho9; rw [←Ny260.out] at ho9)); have n0_:=Aside0.mk (Kd.R_lower ho9 (zao (by repeat (first|(with_reducible first|exact HB.out|apply zaa|apply zab|apply zac)|exact HB.out)))); have n1_:=Aside0.mk (zam (by repeat (first|(with_reducible first|exact HB.out|apply zaa|apply zab|apply zac)|exact HB.out)) hb); clear HB; have HO262:=n0_; have HB:=n1_; clear n0_ n1_; clear hb ho9; have hcv10:=zcR (P:=Tryz.prog) Tryz.underlying95 Tryz.underlying5 Tryz.underlying9 (Kd.own_of_R HO262.out)))
     go_ret
     exact ⟨by first|rfl|(simp [zai,zah]<;>rfl)|(simp [*,zai,zah]<;>rfl),by repeat (first|(with_reducible first|exact HB.out|apply zaa|apply zab|apply zac)|exact HB.out)⟩
    ·rw [if_neg c7] at H
     exact absurd H (by simp)
end Go.Proofs.ZP
end
section
namespace Go.Proofs.ZP
open Go.RowKit Go.Proofs.ZW.Wa
theorem ref_loop (s:ByteArray) (hs:s.size≤1099511627776):∀ (d i:Nat),d=s.size-i→i≤s.size→Ev (fun k=>c1_natural.l0 k s (i:Int)) (decide (Dig (s.data.toList.drop i))):=by
 have hl:s.data.toList.length=s.size:=zaq s
 intro d
 induction d with
 | zero =>
  intro i hd hi
  have:Dig (s.data.toList.drop i):=by rw [List.drop_eq_nil_of_le (by omega)]; intro c hc; cases hc
  rw [decide_eq_true this]
  refine Ev.step (f:=fun _=>some true) (fun k => ?_) (Ev.now _)
  simp only [c1_natural.l0]
  rw [if_neg (by omega)]
 | succ d ih =>
  intro i hd hi
  have hil:i<s.data.toList.length:=by omega
  have hb:=bt_nth s hil
  have hdd:=dig_drop hil
  by_cases h1:s.data.toList[i].toNat<48
  ·rw [decide_eq_false (fun h=>by have:=(hdd.1 h).1; omega)]
   refine Ev.step (f:=fun _=>some false) (fun k => ?_) (Ev.now _)
   simp only [c1_natural.l0]
   rw [if_pos (by omega),if_pos (by omega),hb,if_pos (by omega)]
  ·by_cases h2:s.data.toList[i].toNat>57
   ·rw [decide_eq_false (fun h=>by have:=(hdd.1 h).1; omega)]
    refine Ev.step (f:=fun _=>some false) (fun k => ?_) (Ev.now _)
    simp only [c1_natural.l0]
    rw [if_pos (by omega),if_pos (by omega),hb,if_neg (by omega),if_pos (by omega)]
   ·have e:decide (Dig (s.data.toList.drop i))=decide (Dig (s.data.toList.drop (i+1))):=decide_eq_decide.2 ⟨fun h=>(hdd.1 h).2,fun h=>hdd.2 ⟨by omega,h⟩⟩
    rw [e]
    refine Ev.step (f:=fun k=>c1_natural.l0 k s ((i+1:Nat):Int)) (fun k => ?_) (ih (i+1) (by omega) (by omega))
    simp only [c1_natural.l0]
    rw [if_pos (by omega),if_pos (by omega),hb,if_neg (by omega),if_neg (by omega),w64' (by omega) (by omega)]
    rfl
theorem natural_ev (s:ByteArray) (hs:s.size≤1099511627776):Ev (fun k=>c1_natural.f k s) (decide (Can s.data.toList)):=by
 have hl:s.data.toList.length=s.size:=zaq s
 have hF:∀ b,b=false→Ev (fun k=>c1_natural.j0 k s true) b:=fun b hb=>by
  subst hb
  refine Ev.step (f:=fun _=>some false) (fun k => ?_) (Ev.now _)
  simp [c1_natural.j0]
 have hL:=ref_loop s hs s.size 0 (by omega) (by omega)
 rw [List.drop_zero] at hL
 have hgo:∀ b:Bool,(Dig s.data.toList↔b=true)→Ev (fun k=>c1_natural.j0 k s false) b:=fun b hb=>by
  have:b=decide (Dig s.data.toList):=by
   cases b
   ·exact (decide_eq_false (fun h=>by have:=hb.1 h; cases this)).symm
   ·exact (decide_eq_true (hb.2 rfl)).symm
  rw [this]
  refine Ev.step (fun k => ?_) hL
  simp only [c1_natural.j0]
  rfl
 unfold c1_natural.f
 by_cases h0:s.toList=([]:List UInt8)
 ·refine Ev.congr (f:=fun k=>c1_natural.j0 k s true) (fun k=>if_pos h0) (hF _ (decide_eq_false (fun h => ?_)))
  rw [ZQ.ba_toList] at h0
  have:=h.1
  rw [h0] at this
  simp at this
 ·have hp:0<s.data.toList.length:=by
   rw [ZQ.ba_toList] at h0
   exact List.length_pos_iff.2 h0
  have hb:=bt_nth s hp
  have hb0:bt s 0=(s.data.toList[0].toNat:Int):=hb
  by_cases h48:bt s 0=48
  ·by_cases h1:(s.size:Int)>1
   ·refine Ev.congr (f:=fun k=>c1_natural.j0 k s true) (fun k=>by rw [if_neg h0,if_pos (by omega),if_pos h48,decide_eq_true h1]) (hF _ (decide_eq_false (fun h => ?_)))
    have:=((can_iff hp).1 h).2 (u48.1 (by omega))
    omega
   ·refine Ev.congr (f:=fun k=>c1_natural.j0 k s false) (fun k=>by rw [if_neg h0,if_pos (by omega),if_pos h48,decide_eq_false h1]) (hgo _ ?_)
    rw [decide_eq_true_iff,can_iff hp]
    exact ⟨fun h=>⟨h,fun _=>by omega⟩,fun h=>h.1⟩
  ·refine Ev.congr (f:=fun k=>c1_natural.j0 k s false) (fun k=>by rw [if_neg h0,if_pos (by omega),if_neg h48]) (hgo _ ?_)
   rw [decide_eq_true_iff,can_iff hp]
   exact ⟨fun h=>⟨h,fun e=>absurd (by rw [hb0]; exact u48.2 e) h48⟩,fun h=>h.1⟩
theorem ref_right_ev (s:ByteArray):Ev (fun k=>c1_Right.f k s) (rightB s):=by
 unfold c1_Right.f rightB
 by_cases h:(s.size:Int)≤600
 ·have e:decide (Can s.data.toList∧s.size≤600)=decide (Can s.data.toList):=decide_eq_decide.2 ⟨fun h=>h.1,fun h'=>⟨h',by omega⟩⟩
  rw [e]
  refine Ev.congr (f:=fun k=>(c1_natural.f k s).bind fun t267=>(some t267)) (fun k=>if_pos h) (Ev.bind (natural_ev s (by omega)) (Ev.now _))
 ·rw [decide_eq_false (fun h'=>h (by have:=h'.2; omega))]
  exact Ev.congr (f:=fun _=>some false) (fun k=>if_neg h) (Ev.now _)
theorem str_one {d:Nat} (h:d<10):strOfNums [(48:Int)+(d:Int)]=⟨#[UInt8.ofNat (48+d)]⟩:=by
 unfold strOfNums
 simp only [List.map_cons,List.map_nil]
 rw [show ((48:Int)+(d:Int)).toNat=48+d by omega]
theorem of_ev:∀ (n:Nat) (s:ByteArray),n<18446744073709551616→∀ b:Nat,s.size+(decl n).length≤b→b≤1000000→Ev (fun k=>c1_Of.l0 k (n:Int) s) (⟨(decl n).toArray⟩++s):=by
 intro n
 induction n using Nat.strongRecOn with
 | ind n ih =>
  intro s hn b hb hb2
  by_cases h:n>9
  ·have hd:decl n=decl (n/10) ++ [UInt8.ofNat (48+n%10)]:=by
    have:=decl_snoc (m:=n/10) (d:=n%10) (by omega) (by omega)
    rwa [show 10*(n/10)+n%10=n by omega] at this
   have e1:(IntKind.u64.wrap (48+(Int.tmod (n:Int) 10)))%256=48+((n%10:Nat):Int):=by
    rw [Int.tmod_eq_emod_of_nonneg (by omega),IntKind.wrap_u64]; omega
   have e2:IntKind.u64.wrap (Int.tdiv (n:Int) 10)=((n/10:Nat):Int):=by
    rw [Int.tdiv_eq_ediv_of_nonneg (by omega),IntKind.wrap_u64]; omega
   have hsz:((⟨#[UInt8.ofNat (48+n%10)]⟩:ByteArray)++s).size=1+s.size:=by rw [ByteArray.size_append]; rfl
   have hl:(decl n).length=(decl (n/10)).length+1:=by rw [hd]; simp
   have hs:=ih (n/10) (by omega) (⟨#[UInt8.ofNat (48+n%10)]⟩++s) (by omega) b (by rw [hsz]; omega) hb2
   have e3:(⟨(decl (n/10)).toArray⟩:ByteArray)++(⟨#[UInt8.ofNat (48+n%10)]⟩++s)=⟨(decl n).toArray⟩++s:=by
    rw [hd]
    refine (zax (?_:_=(decl (n/10) ++ [UInt8.ofNat (48+n%10)])++s.data.toList)).trans (zax ?_).symm
    all_goals simp
   rw [e3] at hs
   refine Ev.step (fun k => ?_) hs
   simp only [c1_Of.l0]
   rw [if_pos (by omega),Option.bind_some,e1,str_one (by omega),e2,if_pos (by rw [show (⟨#[UInt8.ofNat (48+n%10)]⟩:ByteArray).size=1 from rfl]; omega)]
  ·have e1:(IntKind.u64.wrap (48+(n:Int)))%256=48+(n:Int):=by rw [IntKind.wrap_u64]; omega
   refine Ev.step (f:=fun _=>some (⟨(decl n).toArray⟩++s)) (fun k => ?_) (Ev.now _)
   simp only [c1_Of.l0]
   rw [if_neg (by omega),Option.bind_some,e1,str_one (by omega),if_pos (by rw [show (⟨#[UInt8.ofNat (48+n)]⟩:ByteArray).size=1 from rfl]; omega),zbN (by omega)]
theorem of_tells (n:Nat) (h:n<18446744073709551616):Ev (fun k=>c1_Of.f k (n:Int)) (T n):=by
 have hl:(decl n).length≤20:=(zbO (by decide)).2 (Nat.lt_of_lt_of_le h (by decide))
 have h0:(⟨#[]⟩:ByteArray).size=0:=rfl
 have:=of_ev n ⟨#[]⟩ h 1000 (by omega) (by decide)
 have e:(⟨(decl n).toArray⟩:ByteArray)++⟨#[]⟩=T n:=(zax (by simp)).trans rfl
 rw [e] at this
 exact this
def c1_text.f (l0:List Int):Option ByteArray:=if l0=lim (lv l0).toNat∧l0.length≤1099511627776 then some (T (lv l0).toNat) else none
theorem zde (n:Nat) (h:(lim n).length≤1099511627776):c1_text.f (lim n)=some (T n):=by
 unfold c1_text.f
 rw [zbH,Int.toNat_natCast,if_pos ⟨rfl,h⟩]
theorem text_some {l:List Int} {r:ByteArray} (h:c1_text.f l=some r):∃ n,l=lim n∧l.length≤1099511627776∧r=T n:=by
 unfold c1_text.f at h
 split at h
 ·rename_i hc
  exact ⟨_,hc.1,hc.2,(Option.some.inj h).symm⟩
 ·cases h
structure XSt (w wr:World) (l:List Int) (v:Value) (bs:List UInt8) (j:Nat):Prop where
 own:wr.ownsRow w.heap.size 5 1 v (bints bs).length (nums .u8 (bints bs))
 below:Below w.heap.size w wr
 dig:Dig bs
 len:bs.length=4*j
 eq:(dval bs:Int)=lv (l.drop (l.length-j))
def four (x:Int):List UInt8:=[UInt8.ofNat (48+x.toNat/1000%10),UInt8.ofNat (48+x.toNat/100%10),UInt8.ofNat (48+x.toNat/10%10),UInt8.ofNat (48+x.toNat%10)]
theorem bints_append (xs bs:List UInt8):bints (xs++bs)=bints xs++bints bs:=by simp [bints]
theorem four_bints {x:Int} (hx:0≤x∧x<10000):bints (four x) = [48+x/1000,48+x/100%10,48+x/10%10,48+x%10]:=by
 unfold four bints
 simp only [List.map_cons,List.map_nil]
 rw [zaY _ (by omega),zaY _ (by omega),zaY _ (by omega),zaY _ (by omega)]
 have h1:((48+x.toNat/1000%10:Nat):Int)=48+x/1000:=by omega
 have h2:((48+x.toNat/100%10:Nat):Int)=48+x/100%10:=by omega
 have h3:((48+x.toNat/10%10:Nat):Int)=48+x/10%10:=by omega
 have h4:((48+x.toNat%10:Nat):Int)=48+x%10:=by omega
 rw [h1,h2,h3,h4]
theorem four_dig (x:Int):Dig (four x):=by
 intro c hc
 unfold four at hc
 simp only [List.mem_cons,List.not_mem_nil,or_false] at hc
 rcases hc with rfl|rfl|rfl|rfl<;>(rw [zaY _ (by omega)]; omega)
theorem four_dval {x:Int} (hx:0≤x∧x<10000):(dval (four x):Int)=x:=by
 unfold four dval
 simp only [List.foldl_cons,List.foldl_nil]
 rw [zaY _ (by omega),zaY _ (by omega),zaY _ (by omega),zaY _ (by omega)]
 omega
theorem raw_four {x:Int} (hx:0≤x∧x<10000):[IntKind.u8.wrap (IntKind.i64.wrap (48+IntKind.i64.wrap (x.tdiv 1000))),IntKind.u8.wrap (IntKind.i64.wrap (48+(IntKind.i64.wrap (x.tdiv 100)).tmod 10)),IntKind.u8.wrap (IntKind.i64.wrap (48+(IntKind.i64.wrap (x.tdiv 10)).tmod 10)),IntKind.u8.wrap (IntKind.i64.wrap (48+x.tmod 10))] = [48+x/1000,48+x/100%10,48+x/10%10,48+x%10]:=by
 have e1:x.tdiv 1000=x/1000:=Int.tdiv_eq_ediv_of_nonneg hx.1
 have e2:x.tdiv 100=x/100:=Int.tdiv_eq_ediv_of_nonneg hx.1
 have e3:x.tdiv 10=x/10:=Int.tdiv_eq_ediv_of_nonneg hx.1
 have e4:x.tmod 10=x%10:=Int.tmod_eq_emod_of_nonneg hx.1
 have f1:IntKind.i64.wrap (x/1000)=x/1000:=by rw [IntKind.wrap_i64]; omega
 have f2:IntKind.i64.wrap (x/100)=x/100:=by rw [IntKind.wrap_i64]; omega
 have f3:IntKind.i64.wrap (x/10)=x/10:=by rw [IntKind.wrap_i64]; omega
 have g2:(x/100).tmod 10=x/100%10:=Int.tmod_eq_emod_of_nonneg (by omega)
 have g3:(x/10).tmod 10=x/10%10:=Int.tmod_eq_emod_of_nonneg (by omega)
 have w8:∀ y:Int,0≤y→y<256→IntKind.u8.wrap (IntKind.i64.wrap y)=y:=fun y h0 h1=>by
  rw [show IntKind.i64.wrap y=y by rw [IntKind.wrap_i64]; omega,IntKind.wrap_u8]; omega
 rw [e1,e2,e3,e4,f1,f2,f3,g2,g3,w8 _ (by omega) (by omega),w8 _ (by omega) (by omega),w8 _ (by omega) (by omega),w8 _ (by omega) (by omega)]
theorem lit_reads (w:World) (xs:List Int) (h:xs.length≤9223372036854775807):ReadsRow (fun (x:Int) (cs:List Value)=>cs = [.int .u8 x]) 1 (w.alloc (.cells (nums .u8 xs).toArray 5)).drew (some ⟨w.heap.size,0,none⟩) xs.length xs:=by
 obtain ⟨A,c,he,hr⟩:=zdo (zcK w w.heap.size 5 .u8 xs (Nat.le_refl _) h).drew (zdj .u8 xs) rfl
 injection he with hA
 rw [hA]; exact hr
theorem rd_bints {bs:List UInt8} {k:Nat} (h:k<bs.length):rd (bints bs) (k:Int)=((bs[k].toNat:Nat):Int):=by
 have h2:k<(bints bs).length:=by unfold bints; rw [List.length_map]; exact h
 rw [rd_lt h2]
 simp [bints]
theorem drop_zero48 {bs:List UInt8} {k:Nat} (h:k<bs.length) (h48:bs[k]=48):dval (bs.drop (k+1))=dval (bs.drop k):=by
 rw [List.drop_eq_getElem_cons h,h48,zbV]
 have:(48:UInt8).toNat=48:=rfl
 rw [this]; omega
theorem drop_text {bs:List UInt8} {k n:Nat} (h:k<bs.length) (h48:bs[k]≠48) (hd:Dig bs) (hv:dval (bs.drop k)=n):strOfNums (bints (bs.drop k))=T n:=by
 have hc:Can (bs.drop k):=by
  refine ⟨by rw [List.length_drop]; omega,hd.drop k,fun e => ?_⟩
  rw [List.drop_eq_getElem_cons h,List.head?_cons] at e
  exact absurd (Option.some.inj e) h48
 have:=zda _ _ rfl hc
 rw [hv] at this
 rw [str_bints]
 unfold T
 rw [this]
theorem reads_drop {w:World} {g n:Nat} {xs:List Int} (h:ReadsInt w .u8 (some ⟨g,0,none⟩) n xs) (k:Nat) (hk:k≤n):ReadsInt w .u8 (some ⟨g,k,none⟩) (n-k) (xs.drop k):=
 ⟨by rw [List.length_drop,h.1],by have:=h.2.1; omega,fun hp=>⟨⟨g,k,none⟩,rfl,fun j hj=>by
  obtain ⟨ad,he,hc⟩:=h.2.2 (by omega)
  injection he with he
  subst he
  have h2:=hc (k+j) (by omega)
  have e:(⟨g,0,none⟩:Addr).add (k+j)=(⟨g,k,none⟩:Addr).add j:=by rw [add_at,add_at,Nat.zero_add]
  rw [←e,h2]
  simp [List.getD_eq_getElem?_getD,List.getElem?_drop]⟩⟩
theorem bints_drop (bs:List UInt8) (k:Nat):(bints bs).drop k=bints (bs.drop k):=by simp [bints,List.map_drop]
theorem XSt.more {w wr w1:World} {l:List Int} {v v1:Value} {bs:List UInt8} {j m:Nat} {x:Int} (h:XSt w wr l v bs j) (hx:rd l (m:Int)=x) (hx2:0≤x∧x<10000) (hm:m+j+1=l.length)
  (ho:w1.ownsRow w.heap.size 5 1 v1 (bints bs ++ [48+x/1000,48+x/100%10,48+x/10%10,48+x%10]).length (nums .u8 (bints bs ++ [48+x/1000,48+x/100%10,48+x/10%10,48+x%10]))) (hb:Below w.heap.size w w1):Hid (XSt w w1 l v1 (bs++four x) (j+1)):=by
 rw [←four_bints hx2,←bints_append] at ho
 refine ⟨ho,hb,fun c hc=>(List.mem_append.1 hc).elim (h.dig c) (four_dig x c),by rw [List.length_append,h.len]; simp [four]; omega,?_⟩
 rw [zbk,show (four x).length=4 from rfl,Int.natCast_add,Int.natCast_mul,h.eq,four_dval hx2]
 have e:l.length-(j+1)=m:=by omega
 have e2:l.length-j=m+1:=by omega
 have hml:m<l.length:=by omega
 rw [e,e2,List.drop_eq_getElem_cons hml]
 simp only [lv]
 rw [←hx,rd_lt hml]
 omega
theorem text_walk (A:Option Addr) (c n:Nat) (w:World) (hr:Kd.C (Kd.int .i64) w A (lim n).length (lim n)) (hc:(lim n).length≤c) (hl:(lim n).length≤1099511627776) :
  Calls Tryz.prog 207 #[.slice A (lim n).length c] w fun e w'=>e = .returned (.string (T n))∧Below w.heap.size w w':=by
 rcases Nat.eq_zero_or_pos n with h0|h0
 ·subst h0
  have hz:lim 0 = []:=zbC
  rw [hz]
  clear hr hc hl hz
  go_enter Tryz.func207,Tryz.ntmps207
  go_wp2
  go_ret
  exact ⟨rfl,Below.refl _ _⟩
 ·have hp:0<(lim n).length:=by rw [zcx h0]; simp
  have hne:(((lim n).length:Int) == 0)=false:=beq_eq_false_iff_ne.2 (by omega)
  have HLV:=Lib.hid (zbH n)
  have HLD:=Lib.hid (zcg n)
  generalize lim n=l at *
  obtain ⟨i8,hi8,hz8,hs8,hb8⟩:∃ i,Tryz.prog.info? 5=some i∧i.zero=some (.int .u8 0)∧i.size=1∧i.bytes=1:=by
   have h:=infoU8
   rcases hq:Tryz.prog.info? 5 with _|i
   ·rw [hq] at h; cases h
   ·rw [hq] at h
    simp only [Option.map_some,Option.some.injEq,Prod.mk.injEq] at h
    exact ⟨i,rfl,h.1,h.2.1,h.2.2⟩
  obtain ⟨wm,hmk,how,hgm⟩:=run_make_own (P:=Tryz.prog) (w:=w) w.heap.size 95 5 i8 (.int .u8 0) 1 Tryz.underlying95 hi8 hz8 hs8 .i64 .i64 (4*l.length) (by rw [hb8]; omega) (by unfold maxLen; omega) (Nat.le_refl _)
  rw [show ((4*l.length:Nat):Int)=4*(l.length:Int) by omega] at hmk
  have HX0:Hid (XSt w wm l (.slice (some ⟨w.heap.size,0,none⟩) 0 (4*l.length)) [] 0):=⟨how,⟨hgm.os,hgm.tape,hgm.output,hgm.size,fun k hk=>hgm.block k hk (by simp)⟩,(by intro c hc; cases hc),rfl,by rw [Nat.sub_zero,List.drop_length]; rfl⟩
  clear how hgm hi8 hz8 hs8 hb8
  go_enter Tryz.func207,Tryz.ntmps207
  go_wp2_with fail
  go_loopw [3,4] (fun vb vi wr=>∃ (bs:List UInt8) (j:Nat),j≤l.length∧vi = .int .i64 ((l.length:Int)-1-j)∧Hid (XSt w wr l vb bs j)) (fun _ vi _=>(intOf vi+1).toNat)
  case atStart=>exact ⟨[],0,by omega,by go_num,HX0⟩
  case round =>
   obtain ⟨bs,j,hj,rfl,HX⟩:=hrel
   by_cases hjl:j<l.length
   ·obtain ⟨m,hm⟩:∃ m:Nat,m+j+1=l.length:=⟨l.length-1-j,by omega⟩
    rw [show (l.length:Int)-1-(j:Int)=(m:Int) by omega]
    obtain ⟨ad,rfl,hcw⟩:=Kd.at_int hr (m:Int) (by omega) (by omega)
    rw [Int.toNat_natCast] at hcw
    have hx:=HLD.out.rd (m:Int)
    obtain ⟨hx0,hx1⟩:=hx
    generalize hxe:rd l (m:Int)=x at hcw hx0 hx1
    have HXE:=Lib.hid hxe
    have hcell:=bcell HX.out.below hcw
    obtain ⟨A8,c8,rfl,hr8⟩:=zbR HX.out.own
    have hmI:(m:Int)<(l.length:Int):=by omega
    have hmN:m<l.length:=by omega
    have HM:=Lib.hid hm
    clear hxe hr8 hm
    have hll:((bints bs).length+4)*1≤140737488355328:=by have:=HX.out.len; unfold bints; rw [List.length_map]; omega
    have HRW:=Lib.hid (R_of_own8 (World.ownsRow.drew ((HX.out.own.alloc (.cells #[.int .u8 (IntKind.u8.wrap (IntKind.i64.wrap (48+IntKind.i64.wrap (x.tdiv 1000)))),.int .u8 (IntKind.u8.wrap (IntKind.i64.wrap (48+(IntKind.i64.wrap (x.tdiv 100)).tmod 10))),.int .u8 (IntKind.u8.wrap (IntKind.i64.wrap (48+(IntKind.i64.wrap (x.tdiv 10)).tmod 10))),.int .u8 (IntKind.u8.wrap (IntKind.i64.wrap (48+x.tmod 10)))] 5)))))
    have HLT:=Lib.hid (lit_reads wr [IntKind.u8.wrap (IntKind.i64.wrap (48+IntKind.i64.wrap (x.tdiv 1000))),IntKind.u8.wrap (IntKind.i64.wrap (48+(IntKind.i64.wrap (x.tdiv 100)).tmod 10)),IntKind.u8.wrap (IntKind.i64.wrap (48+(IntKind.i64.wrap (x.tdiv 10)).tmod 10)),IntKind.u8.wrap (IntKind.i64.wrap (48+x.tmod 10))] (by simp))
    have hbw:=zap ((bthen HX.out.below (zaa (Below.refl wr.heap.size wr) (.cells #[.int .u8 (IntKind.u8.wrap (IntKind.i64.wrap (48+IntKind.i64.wrap (x.tdiv 1000)))),.int .u8 (IntKind.u8.wrap (IntKind.i64.wrap (48+(IntKind.i64.wrap (x.tdiv 100)).tmod 10))),.int .u8 (IntKind.u8.wrap (IntKind.i64.wrap (48+(IntKind.i64.wrap (x.tdiv 10)).tmod 10))),.int .u8 (IntKind.u8.wrap (IntKind.i64.wrap (48+x.tmod 10)))] 5))))
    have HBW:=Lib.hid hbw
    have hsb:=hbw.size
    clear hbw
    go_wp2_with fail
    go_region_held3 (fun w'=>w'.cell? (ad.add m)=some (.int .i64 x)) (first|go_keep|exact hcell|exact bcell hb hcw)
     ((first
      | (refine Kd.R_append_rows_step (Kd.int .u8) (Rr:=fun (y:Int) (cs:List Value)=>cs = [.int .u8 y]) w.heap.size (by rfl) _ _ 95 5 (.int .u8 0) 1 rfl Tryz.underlying95 infoU8 rfl (by decide) (by decide) (.slice A8 (bints bs).length c8) (bints bs) [IntKind.u8.wrap (IntKind.i64.wrap (48+IntKind.i64.wrap (x.tdiv 1000))),IntKind.u8.wrap (IntKind.i64.wrap (48+(IntKind.i64.wrap (x.tdiv 100)).tmod 10)),IntKind.u8.wrap (IntKind.i64.wrap (48+(IntKind.i64.wrap (x.tdiv 10)).tmod 10)),IntKind.u8.wrap (IntKind.i64.wrap (48+x.tmod 10))] (some ⟨wr.heap.size,0,none⟩) 4 4 (fun _=>True) (fun _=>False) rfl rfl HRW.out HLT.out (fun _ _ h=>h) (fun _ h=>h.elim) (fun _ _=>trivial) HBW.out hsb hll ?_; intro v1 w1 hown hb hg hat)))
    rw [raw_four ⟨hx0,hx1⟩] at hown
    have HX2:=HX.out.more (x:=x) HXE.out ⟨hx0,hx1⟩ HM.out (own8_of_R hown) hb
    clear hown hg hat
    go_wp2
    go_roundw
    case rel=>exact ⟨bs++four x,j+1,by omega,congrArg (Value.int .i64) (by have:=HM.out; omega),HX2⟩
    case measure=>first|(simp [intOf]; done)|(simp [intOf]; omega)
   ·have hjj:j=l.length:=by omega
    subst hjj
    have hv:=HX.out.eq
    rw [Nat.sub_self,List.drop_zero,HLV.out] at hv
    have HV:=Lib.hid (show dval (bs.drop 0)=n by rw [List.drop_zero]; omega)
    have hbl:=HX.out.len
    have hbp:0<bs.length:=by omega
    have HBL:=Lib.hid hbl
    clear hv hbl
    rw [show (l.length:Int)-1-(l.length:Int) = -1 by omega]
    obtain ⟨g,cap,rfl,hg0,hg1⟩:=World.ownsRow.form HX.out.own (by unfold bints; rw [List.length_map]; exact hbp)
    clear hg1
    go_wp2_with fail
    go_loopw [5] (fun vk wr'=>∃ k:Nat,vk = .int .i64 k∧Hid (k≤bs.length∧dval (bs.drop k)=n)∧Hid (XSt w wr' l (.slice (some ⟨g,0,none⟩) (bints bs).length cap) bs l.length)) (fun vk _=>bs.length-(intOf vk).toNat)
    case atStart=>exact ⟨0,by go_num,Lib.hid ⟨by omega,HV.out⟩,HX⟩
    case round =>
     obtain ⟨k,rfl,HK,HX2⟩:=hrel
     have hk:k<bs.length:=by
      apply Classical.byContradiction
      intro hn
      have h1:=HK.out.2
      rw [List.drop_eq_nil_of_le (by omega),show dval []=0 from rfl] at h1
      omega
     have hkb:k<(bints bs).length:=by unfold bints; rw [List.length_map]; exact hk
     have hkI:(k:Int)<((bints bs).length:Int):=by omega
     have hcap:=own_le HX2.out.own
     obtain ⟨hs1,hs2⟩:=zbY HX2.out.own (k:Int) (by omega) hkI
     rw [Int.toNat_natCast,rd_bints hk] at hs1
     have hbm:bs.length≤4398046511104:=by have:=HBL.out; omega
     by_cases h48:bs[k]=48
     ·rw [h48,show (((48:UInt8).toNat:Nat):Int)=48 from rfl] at hs1
      have HD:=Lib.hid (drop_zero48 hk h48)
      clear h48 hs2
      go_wp2
      go_roundw
      case rel=>exact ⟨k+1,by go_num,Lib.hid ⟨by omega,HD.out.trans HK.out.2⟩,HX2⟩
      case measure=>simp [intOf]; omega
     ·have hne:(((bs[k].toNat:Nat):Int) == 48)=false:=beq_eq_false_iff_ne.2 (fun e=>h48 (UInt8.toNat_inj.1 (by have:(48:UInt8).toNat=48:=rfl; omega)))
      have HFIN:=Lib.hid (drop_text hk h48 (HX2.out.dig) HK.out.2)
      have HR:=Lib.hid (zb1 HX2.out.own)
      clear h48 hs2
      generalize ((bs[k].toNat:Nat):Int)=u at hs1 hne
      have hcv:=string_of_reads (P:=Tryz.prog) (c:=cap-k) Tryz.underlying95 Tryz.underlying5 Tryz.underlying9 (reads_drop HR.out k (by omega))
      rw [bints_drop,HFIN.out] at hcv
      have hB:=HX2.out.below
      go_wp2
      go_ret
      exact ⟨rfl,hB⟩
theorem c1_text.calls (A0:Option Addr) (c0:Nat) (l0:List Int) (r:ByteArray) (w:World) (hr0:Kd.C (Kd.int .i64) w A0 l0.length l0) (hc0:l0.length≤c0) (h:c1_text.f l0=some r) :
  Calls Tryz.prog 207 #[.slice A0 l0.length c0] w fun e w'=>e = .returned (.string r)∧Below w.heap.size w w':=by
 obtain ⟨n,rfl,hl,rfl⟩:=text_some h
 exact text_walk A0 c0 n w hr0 hc0 hl
end Go.Proofs.ZP
end
section
namespace Go.Proofs.ZP
open Go.RowKit Go.Proofs.ZW.Wa Go.Proofs.ZW.Wb Go.Proofs.ZW.Wc
attribute [local go_sem] zaI zaG zaP zaO zaA zaz zaH zaF
mutual
def c1_Plus.l0:Nat→List Int→List Int→List Int→Int→Int→Option (ByteArray)
 | 0,_,_,_,_,_=>none
 | k+1,x5,x6,x7,x8,x9=>if x9<(x5.length:Int) then (c1_Plus.j1 k x5 x6 x7 x8 x9 true) else (if x9<(x6.length:Int) then (c1_Plus.j1 k x5 x6 x7 x8 x9 true) else (c1_Plus.j1 k x5 x6 x7 x8 x9 (decide (x8>0))))
def c1_Plus.j1:Nat→List Int→List Int→List Int→Int→Int→Bool→Option (ByteArray)
 | 0,_,_,_,_,_,_=>none
 | k+1,x5,x6,x7,x8,x9,x27=>if x27=true then (if x9<(x5.length:Int) then (if 0≤x9 then (if x9<(x6.length:Int) then (if x7.length<17592186044416 then (c1_Plus.l0 k x5 x6 (x7 ++ [Int.tmod (wrap64 ((wrap64 (x8+(rd x5 x9)))+(rd x6 x9))) 10000]) (wrap64 (Int.tdiv (wrap64 ((wrap64 (x8+(rd x5 x9)))+(rd x6 x9))) 10000)) (wrap64 (x9+1))) else (none)) else (if x7.length<17592186044416 then (c1_Plus.l0 k x5 x6 (x7 ++ [Int.tmod (wrap64 (x8+(rd x5 x9))) 10000]) (wrap64 (Int.tdiv (wrap64 (x8+(rd x5 x9))) 10000)) (wrap64 (x9+1))) else (none))) else (none)) else (if x9<(x6.length:Int) then (if 0≤x9 then (if x7.length<17592186044416 then (c1_Plus.l0 k x5 x6 (x7 ++ [Int.tmod (wrap64 (x8+(rd x6 x9))) 10000]) (wrap64 (Int.tdiv (wrap64 (x8+(rd x6 x9))) 10000)) (wrap64 (x9+1))) else (none)) else (none)) else (if x7.length<17592186044416 then (c1_Plus.l0 k x5 x6 (x7 ++ [Int.tmod x8 10000]) (wrap64 (Int.tdiv x8 10000)) (wrap64 (x9+1))) else (none)))) else ((c1_trim.f k x7).bind fun t238=>((c1_text.f t238).bind fun t241=>(some t241)))
end
def c1_Plus.f (k:Nat) (a0:ByteArray) (a1:ByteArray):Option (ByteArray):=(c1_limbs.f k a0).bind fun t232=>((c1_limbs.f k a1).bind fun t235=>(c1_Plus.l0 k t232 t235 ([]:List Int) 0 0))
theorem c1_Plus.calls (k:Nat) (a0:ByteArray) (a1:ByteArray) (r:ByteArray) (w:World) (h:c1_Plus.f k a0 a1=some r) :
  Calls Tryz.prog 129 #[.string a0,.string a1] w fun e w'=>e = .returned (.string r)∧Below w.heap.size w w':=by
 have HB:=Aside0.mk (Below.refl w.heap.size w)
 have H:((c1_limbs.f k a0).bind fun t232=>((c1_limbs.f k a1).bind fun t235=>(c1_Plus.l0 k t232 t235 ([]:List Int) 0 0)))=some r:=h
 clear h
 replace H:=Option.bind_eq_some_iff.mp H
 obtain ⟨t232,A30,H⟩:=H
 replace H:((c1_limbs.f k a1).bind fun t235=>(c1_Plus.l0 k t232 t235 ([]:List Int) 0 0))=some r:=H
 have A3:=Aside0.mk A30
 clear A30
 replace H:=Option.bind_eq_some_iff.mp H
 obtain ⟨t235,A40,H⟩:=H
 replace H:(c1_Plus.l0 k t232 t235 ([]:List Int) 0 0)=some r:=H
 have A4:=Aside0.mk A40
 clear A40
 have H':=Aside0.mk H
 clear H
 go_enter Tryz.func129,Tryz.ntmps129
 go_wp2_with (first|((with_reducible refine zar (f:=203) rfl ?_); refine zaX (some 11) rfl rfl Tryz.func203 (by kernel_rfl) rfl #[.string a0] rfl (by (try simp only [List.map_toArray,List.map_cons,List.map_nil]); first|done|rfl|(simp only [List.length_drop,List.length_take]; rfl)) ?_; (with_reducible refine (c1_limbs.calls k a0 t232 _ A3.out).mono ?_); rintro e w5 ⟨v233,rfl,ho0,hb⟩; refine ⟨_,rfl,?_⟩; have n0_:=Aside0.mk (Kd.V_lower (Kd.V_mono (ok':=fun k_=>True) ho0 (fun k_ hk_=>trivial)) (zao (by repeat (first|(with_reducible first|exact HB.out|apply zaa|apply zab|apply zac)|exact HB.out)))); have n1_:=Aside0.mk (zam (by repeat (first|(with_reducible first|exact HB.out|apply zaa|apply zab|apply zac)|exact HB.out)) hb); clear HB; have HO234:=n0_; have HB:=n1_; clear n0_ n1_; (try clear hb); (try clear hb2); (try clear hk); (try clear hi); (try clear ho0))|((with_reducible refine zar (f:=203) rfl ?_); refine zaX (some 13) rfl rfl Tryz.func203 (by kernel_rfl) rfl #[.string a1] rfl (by (try simp only [List.map_toArray,List.map_cons,List.map_nil]); first|done|rfl|(simp only [List.length_drop,List.length_take]; rfl)) ?_; (with_reducible refine (c1_limbs.calls k a1 t235 _ A4.out).mono ?_); rintro e w6 ⟨v236,rfl,ho0,hb⟩; refine ⟨_,rfl,?_⟩; have n0_:=Aside0.mk (Kd.V_below (by (with_reducible repeat (first|apply Kd.V_alloc|apply Kd.V_drewN|apply Kd.V_drew)); exact HO234.out) hb); have n1_:=Aside0.mk (Kd.V_lower (Kd.V_mono (ok':=fun k_=>True) ho0 (fun k_ hk_=>trivial)) (zao (by repeat (first|(with_reducible first|exact HB.out|apply zaa|apply zab|apply zac)|exact HB.out)))); have n2_:=Aside0.mk (zam (by repeat (first|(with_reducible first|exact HB.out|apply zaa|apply zab|apply zac)|exact HB.out)) hb); clear HO234; clear HB; have HO234:=n0_; have HO237:=n1_; have HB:=n2_; clear n0_ n1_ n2_; (try clear hb); (try clear hb2); (try clear hk); (try clear hi); (try clear ho0)))
 go_loopg [7,8,9] k (fun kq v7 v8 v9 w'=>∃ (x7_1:List Int) (x8_1:Int) (x9_1:Int),v8 = .int .i64 x8_1∧v9 = .int .i64 x9_1∧Aside0 (c1_Plus.l0 kq t232 t235 x7_1 x8_1 x9_1=some r)∧Aside0 (kq≤k)∧Aside0 (Kd.V (Kd.int .i64) 3 w' w.heap.size (fun k_=>some k_≠(v7:Value).ownBlock) v233 t232)∧Aside0 (Kd.V (Kd.int .i64) 3 w' w.heap.size (fun k_=>some k_≠(v7:Value).ownBlock) v236 t235)∧Aside0 (Kd.R (Kd.int .i64) 3 w' w.heap.size (fun _=>True) v7 x7_1)∧Aside0 (Below w.heap.size w w'))
 case atStart=>exact ⟨(([]:List Int)),(0),(0),(by first|rfl|(simp; done)|(simp [*]; done)),(by first|rfl|(simp; done)|(simp [*]; done)),H',⟨Nat.le_refl _⟩,⟨by (with_reducible repeat (first|apply Kd.V_alloc|apply Kd.V_drewN|apply Kd.V_drew)); exact Kd.V_mono HO234.out (fun _ hk=>(by simp [Value.ownBlock]))⟩,⟨by (with_reducible repeat (first|apply Kd.V_alloc|apply Kd.V_drewN|apply Kd.V_drew)); exact Kd.V_mono HO237.out (fun _ hk=>(by simp [Value.ownBlock]))⟩,⟨by first|exact Kd.R_nil _ _ _ _ _|exact Kd.N_nil _ _ _ _ _|exact Kd.V_nil _ _ _ _ _|exact Kd.Q_nil _ _ _ _ _|exact Kd.S_nil _ _ _ _ _⟩,⟨by repeat (first|(with_reducible first|exact HB.out|apply zaa|apply zab|apply zac)|exact HB.out)⟩⟩
 case round =>
  clear H'
  try clear c1
  try clear c2
  try clear p2
  obtain ⟨x7_1,x8_1,x9_1,rfl,rfl,HA,HK1,HO_5,HO_6,HO_7,HB⟩:=hrel
  cases gk with
  | zero=>exact absurd HA.out (by simp [c1_Plus.l0])
  | succ k1 =>
   have H:=HA.out
   clear HA
   simp only [c1_Plus.l0] at H
   have HC7:=Aside0.mk H
   clear H
   go_upto_region 6 with (fail)
   go_cut [27] (fun v27 wc=>∃ (kq:Nat) (x27_6:Bool),v27 = .bool x27_6∧Aside0 (c1_Plus.j1 kq t232 t235 x7_1 x8_1 x9_1 x27_6=some r)∧Aside0 (kq≤k1)∧Aside0 (Kd.V (Kd.int .i64) 3 wc w.heap.size (fun k_=>some k_≠(u7:Value).ownBlock) v233 t232)∧Aside0 (Kd.V (Kd.int .i64) 3 wc w.heap.size (fun k_=>some k_≠(u7:Value).ownBlock) v236 t235)∧Aside0 (Kd.R (Kd.int .i64) 3 wc w.heap.size (fun _=>True) u7 x7_1)∧Aside0 (Below w.heap.size w wc))
   case first =>
    have H:=HC7.out
    clear HC7
    by_cases c8:x9_1<(t232.length:Int)
    ·rw [if_pos c8] at H
     have c8b0:decide (x9_1<(t232.length:Int))=true:=decide_eq_true c8
     clear c8
     (first|rw [c8b0]|(simp only [i64_w,i32_w]; rw [c8b0])|skip)
     have H':=Aside0.mk H
     clear H
     obtain ⟨Ao9,co9,eo9⟩:=Kd.V_slice HO_5.out
     subst eo9
     go_wp2
     go_meet
     case rel=>exact ⟨_,(true),(by first|rfl|(simp; done)|(simp [*]; done)),H',⟨by have:=HK1.out; first|omega|exact Nat.le_refl _⟩,⟨by (with_reducible repeat (first|apply Kd.V_alloc|apply Kd.V_drewN|apply Kd.V_drew)); exact HO_5.out⟩,⟨by (with_reducible repeat (first|apply Kd.V_alloc|apply Kd.V_drewN|apply Kd.V_drew)); exact HO_6.out⟩,⟨by (with_reducible repeat (first|apply Kd.R_alloc|apply Kd.R_drewN|apply Kd.R_drew)); exact HO_7.out⟩,⟨by repeat (first|(with_reducible first|exact HB.out|apply zaa|apply zab|apply zac)|exact HB.out)⟩⟩
    ·rw [if_neg c8] at H
     have c8b0:decide (x9_1<(t232.length:Int))=false:=decide_eq_false c8
     clear c8
     (first|rw [c8b0]|(simp only [i64_w,i32_w]; rw [c8b0])|skip)
     by_cases c10:x9_1<(t235.length:Int)
     ·rw [if_pos c10] at H
      have c10b0:decide (x9_1<(t235.length:Int))=true:=decide_eq_true c10
      clear c10
      have H':=Aside0.mk H
      clear H
      obtain ⟨Ao11,co11,eo11⟩:=Kd.V_slice HO_5.out
      subst eo11
      obtain ⟨Ao12,co12,eo12⟩:=Kd.V_slice HO_6.out
      subst eo12
      go_wp2
      go_meet
      case rel=>exact ⟨_,(true),(by first|rfl|(simp; done)|(simp [*]; done)),H',⟨by have:=HK1.out; first|omega|exact Nat.le_refl _⟩,⟨by (with_reducible repeat (first|apply Kd.V_alloc|apply Kd.V_drewN|apply Kd.V_drew)); exact HO_5.out⟩,⟨by (with_reducible repeat (first|apply Kd.V_alloc|apply Kd.V_drewN|apply Kd.V_drew)); exact HO_6.out⟩,⟨by (with_reducible repeat (first|apply Kd.R_alloc|apply Kd.R_drewN|apply Kd.R_drew)); exact HO_7.out⟩,⟨by repeat (first|(with_reducible first|exact HB.out|apply zaa|apply zab|apply zac)|exact HB.out)⟩⟩
     ·rw [if_neg c10] at H
      have c10b0:decide (x9_1<(t235.length:Int))=false:=decide_eq_false c10
      clear c10
      have H':=Aside0.mk H
      clear H
      obtain ⟨Ao13,co13,eo13⟩:=Kd.V_slice HO_5.out
      subst eo13
      obtain ⟨Ao14,co14,eo14⟩:=Kd.V_slice HO_6.out
      subst eo14
      go_wp2
      go_meet
      case rel=>exact ⟨_,(decide (x8_1>0)),(by first|rfl|(simp; done)|(simp [*]; done)),H',⟨by have:=HK1.out; first|omega|exact Nat.le_refl _⟩,⟨by (with_reducible repeat (first|apply Kd.V_alloc|apply Kd.V_drewN|apply Kd.V_drew)); exact HO_5.out⟩,⟨by (with_reducible repeat (first|apply Kd.V_alloc|apply Kd.V_drewN|apply Kd.V_drew)); exact HO_6.out⟩,⟨by (with_reducible repeat (first|apply Kd.R_alloc|apply Kd.R_drewN|apply Kd.R_drew)); exact HO_7.out⟩,⟨by repeat (first|(with_reducible first|exact HB.out|apply zaa|apply zab|apply zac)|exact HB.out)⟩⟩
   case rest =>
    clear HC7
    try clear c1
    try clear c2
    try clear p2
    try clear c8
    try clear c8b0
    try clear c10
    try clear c10b0
    try clear c12
    try clear p2
    obtain ⟨kq,x27_6,rfl,HA,HJ6,HO_5,HO_6,HO_7,HB⟩:=hcut
    cases kq with
    | zero=>exact absurd HA.out (by simp [c1_Plus.j1])
    | succ kj6 =>
     have H:=HA.out
     clear HA
     simp only [c1_Plus.j1] at H
     by_cases c15:x27_6=true
     ·subst c15
      have H1:(if x9_1<(t232.length:Int) then (if 0≤x9_1 then (if x9_1<(t235.length:Int) then (if x7_1.length<17592186044416 then (c1_Plus.l0 kj6 t232 t235 (x7_1 ++ [Int.tmod (wrap64 ((wrap64 (x8_1+(rd t232 x9_1)))+(rd t235 x9_1))) 10000]) (wrap64 (Int.tdiv (wrap64 ((wrap64 (x8_1+(rd t232 x9_1)))+(rd t235 x9_1))) 10000)) (wrap64 (x9_1+1))) else (none)) else (if x7_1.length<17592186044416 then (c1_Plus.l0 kj6 t232 t235 (x7_1 ++ [Int.tmod (wrap64 (x8_1+(rd t232 x9_1))) 10000]) (wrap64 (Int.tdiv (wrap64 (x8_1+(rd t232 x9_1))) 10000)) (wrap64 (x9_1+1))) else (none))) else (none)) else (if x9_1<(t235.length:Int) then (if 0≤x9_1 then (if x7_1.length<17592186044416 then (c1_Plus.l0 kj6 t232 t235 (x7_1 ++ [Int.tmod (wrap64 (x8_1+(rd t235 x9_1))) 10000]) (wrap64 (Int.tdiv (wrap64 (x8_1+(rd t235 x9_1))) 10000)) (wrap64 (x9_1+1))) else (none)) else (none)) else (if x7_1.length<17592186044416 then (c1_Plus.l0 kj6 t232 t235 (x7_1 ++ [Int.tmod x8_1 10000]) (wrap64 (Int.tdiv x8_1 10000)) (wrap64 (x9_1+1))) else (none))))=some r:=by rw [if_pos rfl] at H; exact H
      clear H
      have H:=H1
      clear H1
      by_cases c16:x9_1<(t232.length:Int)
      ·rw [if_pos c16] at H
       have c16b0:decide (x9_1<(t232.length:Int))=true:=decide_eq_true c16
       clear c16
       by_cases c17:0≤x9_1
       ·rw [if_pos c17] at H
        have c17b0:decide (0≤x9_1)=true:=decide_eq_true c17
        clear c17
        by_cases c18:x9_1<(t235.length:Int)
        ·rw [if_pos c18] at H
         have c18b0:decide (x9_1<(t235.length:Int))=true:=decide_eq_true c18
         clear c18
         by_cases c19:x7_1.length<17592186044416
         ·rw [if_pos c19] at H
          have LMc19:=Aside0.mk c19
          clear c19
          obtain ⟨y244,hy244⟩:∃ y_:List Int,y_=(x7_1 ++ [Int.tmod (wrap64 ((wrap64 (x8_1+(rd t232 x9_1)))+(rd t235 x9_1))) 10000]):=⟨_,rfl⟩
          replace H:(c1_Plus.l0 kj6 t232 t235 y244 (wrap64 (Int.tdiv (wrap64 ((wrap64 (x8_1+(rd t232 x9_1)))+(rd t235 x9_1))) 10000)) (wrap64 (x9_1+1)))=some r:=by first|(rw [hy244]; with_reducible exact H)|(have H2_:=(Option.bind_some _ _).symm.trans H; rw [hy244]; with_reducible exact H2_)|(have H2_:=(Option.bind_some _ _).symm.trans H; with_reducible exact H2_)|with_reducible exact H|(rw [hy244]; exact H)|exact H
          have Ny244:=Aside0.mk hy244
          clear hy244
          have H':=Aside0.mk H
          clear H
          obtain ⟨Ao20,co20,eo20⟩:=Kd.V_slice HO_5.out
          subst eo20
          have p242:0≤(x9_1:Int):=of_decide_eq_true (by first|(with_reducible assumption)|assumption)
          have q242:x9_1<(t232.length:Int):=of_decide_eq_true (by first|(with_reducible assumption)|assumption)
          obtain ⟨ad242,e242,hx242_0⟩:=Kd.at_int (Kd.V_reads' HO_5.out).2.2 x9_1 p242 q242
          cases e242
          replace p242:=eq_true p242
          replace q242:=eq_true q242
          obtain ⟨Ao21,co21,eo21⟩:=Kd.V_slice HO_6.out
          subst eo21
          have p243:0≤(x9_1:Int):=of_decide_eq_true (by first|(with_reducible assumption)|assumption)
          have q243:x9_1<(t235.length:Int):=of_decide_eq_true (by first|(with_reducible assumption)|assumption)
          obtain ⟨ad243,e243,hx243_0⟩:=Kd.at_int (Kd.V_reads' HO_6.out).2.2 x9_1 p243 q243
          cases e243
          replace p243:=eq_true p243
          replace q243:=eq_true q243
          go_wp2_with (first|((with_reducible refine zbd (b:=.append) (xs:=#[.tmp 50,.tmp 53]) rfl ?_); (try (refine zb3 (by rfl) ?_; dsimp only)); at_builtin; refine Kd.R_append (Kd.int .i64) (w0:=w) w.heap.size rfl (.tmp 50) (.tmp 53) 92 3 (.int .i64 0) 8 rfl Tryz.underlying92 info3 rfl (by decide) (by omega) u7 x7_1 (Int.tmod (wrap64 ((wrap64 (x8_1+(rd t232 x9_1)))+(rd t235 x9_1))) 10000) [.int .i64 (Int.tmod (wrap64 ((wrap64 (x8_1+(rd t232 x9_1)))+(rd t235 x9_1))) 10000)] (fun _=>True) (fun _=>False) rfl rfl ?aP (fun _ hk=>hk.elim) ?aF ?aO ?aB ?aS ?aL ?_; (case aP=>exact rfl); (case aB=>exact (by repeat (first|(with_reducible first|exact HB.out|apply zaa|apply zab|apply zac)|exact HB.out))); (case aF=>exact (fun _ _=>trivial)); (case aO=>exact (by (with_reducible repeat (first|apply Kd.R_alloc|apply Kd.R_drewN|apply Kd.R_drew)); exact HO_7.out)); (case aS=>exact (zao (by repeat (first|(with_reducible first|exact HB.out|apply zaa|apply zab|apply zac)|exact HB.out)))); (case aL=>have:=LMc19.out; omega); intro v245 w22 ho hb hg hat; rw [←Ny244.out] at ho; have n0_:=Aside0.mk (Kd.V_afterv (ok:=(fun _=>True)) (by (with_reducible repeat (first|apply Kd.V_alloc|apply Kd.V_drewN|apply Kd.V_drew)); exact Kd.V_mono HO_5.out (fun _ hk=>⟨trivial,hk⟩)) hg hat); have n1_:=Aside0.mk (Kd.V_afterv (ok:=(fun _=>True)) (by (with_reducible repeat (first|apply Kd.V_alloc|apply Kd.V_drewN|apply Kd.V_drew)); exact Kd.V_mono HO_6.out (fun _ hk=>⟨trivial,hk⟩)) hg hat); have n2_:=Aside0.mk (hb); have n3_:=Aside0.mk (ho); clear HO_5; clear HO_6; clear HB; clear HO_7; have HO_5:=n0_; have HO_6:=n1_; have HB:=n2_; have HO246:=n3_; clear n0_ n1_ n2_ n3_; clear ho hb hg hat))
          go_roundg kj6
          case measure=>have:=HK1.out; have:=HJ6.out; omega
          case rel=>exact ⟨(y244),(wrap64 (Int.tdiv (wrap64 ((wrap64 (x8_1+(rd t232 x9_1)))+(rd t235 x9_1))) 10000)),(wrap64 (x9_1+1)),(by first|rfl|(simp; done)|(simp [*]; done)),(by first|rfl|(simp; done)|(simp [*]; done)),H',⟨by have:=HK1.out; have:=HJ6.out; omega⟩,⟨by (with_reducible repeat (first|apply Kd.V_alloc|apply Kd.V_drewN|apply Kd.V_drew)); exact Kd.V_mono HO_5.out (fun _ hk=>hk.2)⟩,⟨by (with_reducible repeat (first|apply Kd.V_alloc|apply Kd.V_drewN|apply Kd.V_drew)); exact Kd.V_mono HO_6.out (fun _ hk=>hk.2)⟩,⟨by (with_reducible repeat (first|apply Kd.R_alloc|apply Kd.R_drewN|apply Kd.R_drew)); exact HO246.out⟩,⟨by repeat (first|(with_reducible first|exact HB.out|apply zaa|apply zab|apply zac)|exact HB.out)⟩⟩
         ·rw [if_neg c19] at H
          exact absurd H (by simp)
        ·rw [if_neg c18] at H
         have c18b0:decide (x9_1<(t235.length:Int))=false:=decide_eq_false c18
         clear c18
         by_cases c23:x7_1.length<17592186044416
         ·rw [if_pos c23] at H
          have LMc23:=Aside0.mk c23
          clear c23
          obtain ⟨y247,hy247⟩:∃ y_:List Int,y_=(x7_1 ++ [Int.tmod (wrap64 (x8_1+(rd t232 x9_1))) 10000]):=⟨_,rfl⟩
          replace H:(c1_Plus.l0 kj6 t232 t235 y247 (wrap64 (Int.tdiv (wrap64 (x8_1+(rd t232 x9_1))) 10000)) (wrap64 (x9_1+1)))=some r:=by first|(rw [hy247]; with_reducible exact H)|(have H2_:=(Option.bind_some _ _).symm.trans H; rw [hy247]; with_reducible exact H2_)|(have H2_:=(Option.bind_some _ _).symm.trans H; with_reducible exact H2_)|with_reducible exact H|(rw [hy247]; exact H)|exact H
          have Ny247:=Aside0.mk hy247
          clear hy247
          have H':=Aside0.mk H
          clear H
          obtain ⟨Ao24,co24,eo24⟩:=Kd.V_slice HO_5.out
          subst eo24
          have p242:0≤(x9_1:Int):=of_decide_eq_true (by first|(with_reducible assumption)|assumption)
          have q242:x9_1<(t232.length:Int):=of_decide_eq_true (by first|(with_reducible assumption)|assumption)
          obtain ⟨ad242,e242,hx242_0⟩:=Kd.at_int (Kd.V_reads' HO_5.out).2.2 x9_1 p242 q242
          cases e242
          replace p242:=eq_true p242
          replace q242:=eq_true q242
          obtain ⟨Ao25,co25,eo25⟩:=Kd.V_slice HO_6.out
          subst eo25
          go_wp2_with (first|((with_reducible refine zbd (b:=.append) (xs:=#[.tmp 50,.tmp 53]) rfl ?_); (try (refine zb3 (by rfl) ?_; dsimp only)); at_builtin; refine Kd.R_append (Kd.int .i64) (w0:=w) w.heap.size rfl (.tmp 50) (.tmp 53) 92 3 (.int .i64 0) 8 rfl Tryz.underlying92 info3 rfl (by decide) (by omega) u7 x7_1 (Int.tmod (wrap64 (x8_1+(rd t232 x9_1))) 10000) [.int .i64 (Int.tmod (wrap64 (x8_1+(rd t232 x9_1))) 10000)] (fun _=>True) (fun _=>False) rfl rfl ?aP (fun _ hk=>hk.elim) ?aF ?aO ?aB ?aS ?aL ?_; (case aP=>exact rfl); (case aB=>exact (by repeat (first|(with_reducible first|exact HB.out|apply zaa|apply zab|apply zac)|exact HB.out))); (case aF=>exact (fun _ _=>trivial)); (case aO=>exact (by (with_reducible repeat (first|apply Kd.R_alloc|apply Kd.R_drewN|apply Kd.R_drew)); exact HO_7.out)); (case aS=>exact (zao (by repeat (first|(with_reducible first|exact HB.out|apply zaa|apply zab|apply zac)|exact HB.out)))); (case aL=>have:=LMc23.out; omega); intro v248 w26 ho hb hg hat; rw [←Ny247.out] at ho; have n0_:=Aside0.mk (Kd.V_afterv (ok:=(fun _=>True)) (by (with_reducible repeat (first|apply Kd.V_alloc|apply Kd.V_drewN|apply Kd.V_drew)); exact Kd.V_mono HO_5.out (fun _ hk=>⟨trivial,hk⟩)) hg hat); have n1_:=Aside0.mk (Kd.V_afterv (ok:=(fun _=>True)) (by (with_reducible repeat (first|apply Kd.V_alloc|apply Kd.V_drewN|apply Kd.V_drew)); exact Kd.V_mono HO_6.out (fun _ hk=>⟨trivial,hk⟩)) hg hat); have n2_:=Aside0.mk (hb); have n3_:=Aside0.mk (ho); clear HO_5; clear HO_6; clear HB; clear HO_7; have HO_5:=n0_; have HO_6:=n1_; have HB:=n2_; have HO249:=n3_; clear n0_ n1_ n2_ n3_; clear ho hb hg hat))
          go_roundg kj6
          case measure=>have:=HK1.out; have:=HJ6.out; omega
          case rel=>exact ⟨(y247),(wrap64 (Int.tdiv (wrap64 (x8_1+(rd t232 x9_1))) 10000)),(wrap64 (x9_1+1)),(by first|rfl|(simp; done)|(simp [*]; done)),(by first|rfl|(simp; done)|(simp [*]; done)),H',⟨by have:=HK1.out; have:=HJ6.out; omega⟩,⟨by (with_reducible repeat (first|apply Kd.V_alloc|apply Kd.V_drewN|apply Kd.V_drew)); exact Kd.V_mono HO_5.out (fun _ hk=>hk.2)⟩,⟨by (with_reducible repeat (first|apply Kd.V_alloc|apply Kd.V_drewN|apply Kd.V_drew)); exact Kd.V_mono HO_6.out (fun _ hk=>hk.2)⟩,⟨by (with_reducible repeat (first|apply Kd.R_alloc|apply Kd.R_drewN|apply Kd.R_drew)); exact HO249.out⟩,⟨by repeat (first|(with_reducible first|exact HB.out|apply zaa|apply zab|apply zac)|exact HB.out)⟩⟩
         ·rw [if_neg c23] at H
          exact absurd H (by simp)
       ·rw [if_neg c17] at H
        exact absurd H (by simp)
      ·rw [if_neg c16] at H
       have c16b0:decide (x9_1<(t232.length:Int))=false:=decide_eq_false c16
       clear c16
       by_cases c27:x9_1<(t235.length:Int)
       ·rw [if_pos c27] at H
        have c27b0:decide (x9_1<(t235.length:Int))=true:=decide_eq_true c27
        clear c27
        by_cases c28:0≤x9_1
        ·rw [if_pos c28] at H
         have c28b0:decide (0≤x9_1)=true:=decide_eq_true c28
         clear c28
         by_cases c29:x7_1.length<17592186044416
         ·rw [if_pos c29] at H
          have LMc29:=Aside0.mk c29
          clear c29
          obtain ⟨y251,hy251⟩:∃ y_:List Int,y_=(x7_1 ++ [Int.tmod (wrap64 (x8_1+(rd t235 x9_1))) 10000]):=⟨_,rfl⟩
          replace H:(c1_Plus.l0 kj6 t232 t235 y251 (wrap64 (Int.tdiv (wrap64 (x8_1+(rd t235 x9_1))) 10000)) (wrap64 (x9_1+1)))=some r:=by first|(rw [hy251]; with_reducible exact H)|(have H2_:=(Option.bind_some _ _).symm.trans H; rw [hy251]; with_reducible exact H2_)|(have H2_:=(Option.bind_some _ _).symm.trans H; with_reducible exact H2_)|with_reducible exact H|(rw [hy251]; exact H)|exact H
          have Ny251:=Aside0.mk hy251
          clear hy251
          have H':=Aside0.mk H
          clear H
          obtain ⟨Ao30,co30,eo30⟩:=Kd.V_slice HO_5.out
          subst eo30
          obtain ⟨Ao31,co31,eo31⟩:=Kd.V_slice HO_6.out
          subst eo31
          have p250:0≤(x9_1:Int):=of_decide_eq_true (by first|(with_reducible assumption)|assumption)
          have q250:x9_1<(t235.length:Int):=of_decide_eq_true (by first|(with_reducible assumption)|assumption)
          obtain ⟨ad250,e250,hx250_0⟩:=Kd.at_int (Kd.V_reads' HO_6.out).2.2 x9_1 p250 q250
          cases e250
          replace p250:=eq_true p250
          replace q250:=eq_true q250
          go_wp2_with (first|((with_reducible refine zbd (b:=.append) (xs:=#[.tmp 50,.tmp 53]) rfl ?_); (try (refine zb3 (by rfl) ?_; dsimp only)); at_builtin; refine Kd.R_append (Kd.int .i64) (w0:=w) w.heap.size rfl (.tmp 50) (.tmp 53) 92 3 (.int .i64 0) 8 rfl Tryz.underlying92 info3 rfl (by decide) (by omega) u7 x7_1 (Int.tmod (wrap64 (x8_1+(rd t235 x9_1))) 10000) [.int .i64 (Int.tmod (wrap64 (x8_1+(rd t235 x9_1))) 10000)] (fun _=>True) (fun _=>False) rfl rfl ?aP (fun _ hk=>hk.elim) ?aF ?aO ?aB ?aS ?aL ?_; (case aP=>exact rfl); (case aB=>exact (by repeat (first|(with_reducible first|exact HB.out|apply zaa|apply zab|apply zac)|exact HB.out))); (case aF=>exact (fun _ _=>trivial)); (case aO=>exact (by (with_reducible repeat (first|apply Kd.R_alloc|apply Kd.R_drewN|apply Kd.R_drew)); exact HO_7.out)); (case aS=>exact (zao (by repeat (first|(with_reducible first|exact HB.out|apply zaa|apply zab|apply zac)|exact HB.out)))); (case aL=>have:=LMc29.out; omega); intro v252 w32 ho hb hg hat; rw [←Ny251.out] at ho; have n0_:=Aside0.mk (Kd.V_afterv (ok:=(fun _=>True)) (by (with_reducible repeat (first|apply Kd.V_alloc|apply Kd.V_drewN|apply Kd.V_drew)); exact Kd.V_mono HO_5.out (fun _ hk=>⟨trivial,hk⟩)) hg hat); have n1_:=Aside0.mk (Kd.V_afterv (ok:=(fun _=>True)) (by (with_reducible repeat (first|apply Kd.V_alloc|apply Kd.V_drewN|apply Kd.V_drew)); exact Kd.V_mono HO_6.out (fun _ hk=>⟨trivial,hk⟩)) hg hat); have n2_:=Aside0.mk (hb); have n3_:=Aside0.mk (ho); clear HO_5; clear HO_6; clear HB; clear HO_7; have HO_5:=n0_; have HO_6:=n1_; have HB:=n2_; have HO253:=n3_; clear n0_ n1_ n2_ n3_; clear ho hb hg hat))
          go_roundg kj6
          case measure=>have:=HK1.out; have:=HJ6.out; omega
          case rel=>exact ⟨(y251),(wrap64 (Int.tdiv (wrap64 (x8_1+(rd t235 x9_1))) 10000)),(wrap64 (x9_1+1)),(by first|rfl|(simp; done)|(simp [*]; done)),(by first|rfl|(simp; done)|(simp [*]; done)),H',⟨by have:=HK1.out; have:=HJ6.out; omega⟩,⟨by (with_reducible repeat (first|apply Kd.V_alloc|apply Kd.V_drewN|apply Kd.V_drew)); exact Kd.V_mono HO_5.out (fun _ hk=>hk.2)⟩,⟨by (with_reducible repeat (first|apply Kd.V_alloc|apply Kd.V_drewN|apply Kd.V_drew)); exact Kd.V_mono HO_6.out (fun _ hk=>hk.2)⟩,⟨by (with_reducible repeat (first|apply Kd.R_alloc|apply Kd.R_drewN|apply Kd.R_drew)); exact HO253.out⟩,⟨by repeat (first|(with_reducible first|exact HB.out|apply zaa|apply zab|apply zac)|exact HB.out)⟩⟩
         ·rw [if_neg c29] at H
          exact absurd H (by simp)
        ·rw [if_neg c28] at H
         exact absurd H (by simp)
       ·rw [if_neg c27] at H
        have c27b0:decide (x9_1<(t235.length:Int))=false:=decide_eq_false c27
        clear c27
        by_cases c33:x7_1.length<17592186044416
        ·rw [if_pos c33] at H
         have LMc33:=Aside0.mk c33
         clear c33
         obtain ⟨y254,hy254⟩:∃ y_:List Int,y_=(x7_1 ++ [Int.tmod x8_1 10000]):=⟨_,rfl⟩
         replace H:(c1_Plus.l0 kj6 t232 t235 y254 (wrap64 (Int.tdiv x8_1 10000)) (wrap64 (x9_1+1)))=some r:=by first|(rw [hy254]; with_reducible exact H)|(have H2_:=(Option.bind_some _ _).symm.trans H; rw [hy254]; with_reducible exact H2_)|(have H2_:=(Option.bind_some _ _).symm.trans H; with_reducible exact H2_)|with_reducible exact H|(rw [hy254]; exact H)|exact H
         have Ny254:=Aside0.mk hy254
         clear hy254
         have H':=Aside0.mk H
         clear H
         obtain ⟨Ao34,co34,eo34⟩:=Kd.V_slice HO_5.out
         subst eo34
         obtain ⟨Ao35,co35,eo35⟩:=Kd.V_slice HO_6.out
         subst eo35
         go_wp2_with (first|((with_reducible refine zbd (b:=.append) (xs:=#[.tmp 50,.tmp 53]) rfl ?_); (try (refine zb3 (by rfl) ?_; dsimp only)); at_builtin; refine Kd.R_append (Kd.int .i64) (w0:=w) w.heap.size rfl (.tmp 50) (.tmp 53) 92 3 (.int .i64 0) 8 rfl Tryz.underlying92 info3 rfl (by decide) (by omega) u7 x7_1 (Int.tmod x8_1 10000) [.int .i64 (Int.tmod x8_1 10000)] (fun _=>True) (fun _=>False) rfl rfl ?aP (fun _ hk=>hk.elim) ?aF ?aO ?aB ?aS ?aL ?_; (case aP=>exact rfl); (case aB=>exact (by repeat (first|(with_reducible first|exact HB.out|apply zaa|apply zab|apply zac)|exact HB.out))); (case aF=>exact (fun _ _=>trivial)); (case aO=>exact (by (with_reducible repeat (first|apply Kd.R_alloc|apply Kd.R_drewN|apply Kd.R_drew)); exact HO_7.out)); (case aS=>exact (zao (by repeat (first|(with_reducible first|exact HB.out|apply zaa|apply zab|apply zac)|exact HB.out)))); (case aL=>have:=LMc33.out; omega); intro v255 w36 ho hb hg hat; rw [←Ny254.out] at ho; have n0_:=Aside0.mk (Kd.V_afterv (ok:=(fun _=>True)) (by (with_reducible repeat (first|apply Kd.V_alloc|apply Kd.V_drewN|apply Kd.V_drew)); exact Kd.V_mono HO_5.out (fun _ hk=>⟨trivial,hk⟩)) hg hat); have n1_:=Aside0.mk (Kd.V_afterv (ok:=(fun _=>True)) (by (with_reducible repeat (first|apply Kd.V_alloc|apply Kd.V_drewN|apply Kd.V_drew)); exact Kd.V_mono HO_6.out (fun _ hk=>⟨trivial,hk⟩)) hg hat); have n2_:=Aside0.mk (hb); have n3_:=Aside0.mk (ho); clear HO_5; clear HO_6; clear HB; clear HO_7; have HO_5:=n0_; have HO_6:=n1_; have HB:=n2_; have HO256:=n3_; clear n0_ n1_ n2_ n3_; clear ho hb hg hat))
         go_roundg kj6
         case measure=>have:=HK1.out; have:=HJ6.out; omega
         case rel=>exact ⟨(y254),(wrap64 (Int.tdiv x8_1 10000)),(wrap64 (x9_1+1)),(by first|rfl|(simp; done)|(simp [*]; done)),(by first|rfl|(simp; done)|(simp [*]; done)),H',⟨by have:=HK1.out; have:=HJ6.out; omega⟩,⟨by (with_reducible repeat (first|apply Kd.V_alloc|apply Kd.V_drewN|apply Kd.V_drew)); exact Kd.V_mono HO_5.out (fun _ hk=>hk.2)⟩,⟨by (with_reducible repeat (first|apply Kd.V_alloc|apply Kd.V_drewN|apply Kd.V_drew)); exact Kd.V_mono HO_6.out (fun _ hk=>hk.2)⟩,⟨by (with_reducible repeat (first|apply Kd.R_alloc|apply Kd.R_drewN|apply Kd.R_drew)); exact HO256.out⟩,⟨by repeat (first|(with_reducible first|exact HB.out|apply zaa|apply zab|apply zac)|exact HB.out)⟩⟩
        ·rw [if_neg c33] at H
         exact absurd H (by simp)
     ·replace c15:=Bool.eq_false_iff.mpr c15
      subst c15
      have H1:((c1_trim.f kj6 x7_1).bind fun t238=>((c1_text.f t238).bind fun t241=>(some t241)))=some r:=by rw [if_neg (show ¬ (false=true) by decide)] at H; exact H
      clear H
      have H:=H1
      clear H1
      replace H:=Option.bind_eq_some_iff.mp H
      obtain ⟨t238,A370,H⟩:=H
      replace H:((c1_text.f t238).bind fun t241=>(some t241))=some r:=H
      have A37:=Aside0.mk A370
      clear A370
      replace H:=Option.bind_eq_some_iff.mp H
      obtain ⟨t241,A380,H⟩:=H
      replace H:(some t241)=some r:=H
      have A38:=Aside0.mk A380
      clear A380
      obtain rfl:=Option.some.inj H
      obtain ⟨Ao39,co39,eo39⟩:=Kd.R_slice HO_7.out
      subst eo39
      go_wp2_with (first|((with_reducible refine zar (f:=208) rfl ?_); refine zaX (some 58) rfl rfl Tryz.func208 (by kernel_rfl) rfl #[.slice Ao39 x7_1.length co39] rfl (by (try simp only [List.map_toArray,List.map_cons,List.map_nil]); first|done|rfl|(simp only [List.length_drop,List.length_take]; rfl)) ?_; (with_reducible refine (c1_trim.calls kj6 (fun k_=>some k_=(.slice Ao39 x7_1.length co39:Value).ownBlock) _ _ x7_1 t238 _ ?side1 A37.out).mono ?_); (case side1=>exact Kd.R_V (Kd.R_tight rfl (HO_7.out))); rintro e w40 ⟨v239,rfl,ho0,hb⟩; refine ⟨_,rfl,?_⟩; have n0_:=Aside0.mk (Kd.V_below (by (with_reducible repeat (first|apply Kd.V_alloc|apply Kd.V_drewN|apply Kd.V_drew)); exact HO_5.out) hb); have n1_:=Aside0.mk (Kd.V_below (by (with_reducible repeat (first|apply Kd.V_alloc|apply Kd.V_drewN|apply Kd.V_drew)); exact HO_6.out) hb); have n2_:=Aside0.mk (Kd.R_below (by (with_reducible repeat (first|apply Kd.R_alloc|apply Kd.R_drewN|apply Kd.R_drew)); exact HO_7.out) hb); have n3_:=Aside0.mk (Kd.V_lower (Kd.V_mono (ok':=fun k_=>True) ho0 (fun k_ hk_=>trivial)) (zao (by repeat (first|(with_reducible first|exact HB.out|apply zaa|apply zab|apply zac)|exact HB.out)))); have n4_:=Aside0.mk (zam (by repeat (first|(with_reducible first|exact HB.out|apply zaa|apply zab|apply zac)|exact HB.out)) hb); clear HO_5; clear HO_6; clear HO_7; clear HB; have HO_5:=n0_; have HO_6:=n1_; have HO_7:=n2_; have HO240:=n3_; have HB:=n4_; clear n0_ n1_ n2_ n3_ n4_; (try clear hb); (try clear hb2); (try clear hk); (try clear hi); (try clear ho0); obtain ⟨Ao41,co41,eo41⟩:=Kd.V_slice HO240.out; subst eo41)|((with_reducible refine zar (f:=207) rfl ?_); refine zaX (some 59) rfl rfl Tryz.func207 (by kernel_rfl) rfl #[.slice Ao41 t238.length co41] rfl (by (try simp only [List.map_toArray,List.map_cons,List.map_nil]); first|done|rfl|(simp only [List.length_drop,List.length_take]; rfl)) ?_; (with_reducible refine (c1_text.calls _ _ t238 t241 _ ?side1 ?side2 A38.out).mono ?_); (case side1=>repeat (first|exact (Kd.V_reads' HO240.out).2.2|(with_reducible refine Kd.C_alloc ?_ _)|(with_reducible refine Kd.C_drewN ?_ _)|(with_reducible refine Kd.C_drew ?_))); (case side2=>exact (Kd.V_reads' HO240.out).2.1); rintro e w42 ⟨rfl,hb⟩; refine ⟨_,rfl,?_⟩; have n0_:=Aside0.mk (Kd.V_below (by (with_reducible repeat (first|apply Kd.V_alloc|apply Kd.V_drewN|apply Kd.V_drew)); exact HO_5.out) hb); have n1_:=Aside0.mk (Kd.V_below (by (with_reducible repeat (first|apply Kd.V_alloc|apply Kd.V_drewN|apply Kd.V_drew)); exact HO_6.out) hb); have n2_:=Aside0.mk (Kd.R_below (by (with_reducible repeat (first|apply Kd.R_alloc|apply Kd.R_drewN|apply Kd.R_drew)); exact HO_7.out) hb); have n3_:=Aside0.mk (Kd.V_below (by (with_reducible repeat (first|apply Kd.V_alloc|apply Kd.V_drewN|apply Kd.V_drew)); exact HO240.out) hb); have n4_:=Aside0.mk (zam (by repeat (first|(with_reducible first|exact HB.out|apply zaa|apply zab|apply zac)|exact HB.out)) hb); clear HO_5; clear HO_6; clear HO_7; clear HO240; clear HB; have HO_5:=n0_; have HO_6:=n1_; have HO_7:=n2_; have HO240:=n3_; have HB:=n4_; clear n0_ n1_ n2_ n3_ n4_; (try clear hb); (try clear hb2); (try clear hk); (try clear hi)))
      go_ret
      exact ⟨by first|rfl|(simp [zai,zah]<;>rfl)|(simp [*,zai,zah]<;>rfl),by repeat (first|(with_reducible first|exact HB.out|apply zaa|apply zab|apply zac)|exact HB.out)⟩
end Go.Proofs.ZP
end
section
namespace Go.Proofs.ZP
open Go.RowKit Go.Proofs.ZW.Wa
def rz (xs:List Int) (i:Nat):Int:=if i<xs.length then rd xs (i:Int) else 0
theorem rz_bd {xs:List Int} (h:Ld xs) (i:Nat):0≤rz xs i∧rz xs i<10000:=by
  unfold rz
  split
  · exact h.rd _
  · exact ⟨by decide,by decide⟩
theorem lv_drop (xs:List Int) (i:Nat):lv (xs.drop i)=rz xs i+10000*lv (xs.drop (i+1)):=by
  unfold rz
  split
  · rename_i h
    rw [List.drop_eq_getElem_cons h,rd_lt h]; rfl
  · rename_i h
    rw [List.drop_eq_nil_of_le (by omega),List.drop_eq_nil_of_le (by omega)]; rfl
theorem Ld.snoc {xs:List Int} (h:Ld xs) {v:Int} (h0:0≤v) (h1:v<10000):Ld (xs ++ [v]):=h.append (Ld.cons h0 h1 Ld.nil)
theorem lv_snoc (xs:List Int) (v:Int):lv (xs ++ [v])=lv xs+10000^xs.length*v:=by rw [zco]; simp [lv]
theorem plus_loop (xs ys : List Int) (hx : Ld xs) (hy : Ld ys) (hlx : xs.length ≤ 274877906944) (hly : ys.length ≤ 274877906944) (n : Nat) (hn : (lim n).length ≤ 1099511627776) : ∀ (d i : Nat) (out : List Int) (c : Int), out.length = i → Ld out → 0 ≤ c → c ≤ 1 → i + d = xs.length + ys.length + 2 → (xs.length + ys.length < i → c = 0) → i ≤ xs.length + ys.length + 1 →
    lv out+10000^i*(lv (xs.drop i)+lv (ys.drop i)+c)=n→Ev (fun k=>c1_Plus.l0 k xs ys out c (i:Int)) (T n):=by
  intro d
  induction d with
  | zero=>intro i out c _ _ _ _ h1 _ h2; omega
  | succ d ih =>
    intro i out c hol hod hc0 hc1 hid hic hib hv
    by_cases hgo:i<xs.length∨i<ys.length∨0<c
    · have bx:=rz_bd hx i
      have bY:=rz_bd hy i
      have dx:=lv_drop xs i
      have dy:=lv_drop ys i
      have hstep:=ih (i+1) (out ++ [(c+rz xs i+rz ys i)%10000]) ((c+rz xs i+rz ys i)/10000) (by simp [hol]) (hod.snoc (by omega) (by omega)) (by omega) (by omega) (by omega) (fun h=>by
          have e1:rz xs i=0:=if_neg (by omega)
          have e2:rz ys i=0:=if_neg (by omega)
          omega) (by
          rcases hgo with h|h|h
          · omega
          · omega
          · have:=hic
            omega)
        (by
          rw [lv_snoc,hol,←hv,dx,dy,Int.pow_succ]
          have e:=Int.emod_add_mul_ediv (c+rz xs i+rz ys i) 10000
          generalize (c+rz xs i+rz ys i)%10000=r at *
          generalize (c+rz xs i+rz ys i)/10000=q at *
          generalize (10000:Int)^i=P
          have e2:c=r+10000*q-rz xs i-rz ys i:=by omega
          rw [e2]
          grind)
      have hj:Ev (fun k=>c1_Plus.j1 k xs ys out c (i:Int) true) (T n):=by
        refine Ev.step (fun k => ?_) hstep
        simp only [c1_Plus.j1]
        rw [if_pos (by trivial)]
        by_cases h1:i<xs.length
        · have e1:rz xs i=rd xs (i:Int):=if_pos h1
          rw [if_pos (by omega),if_pos (by omega)]
          by_cases h2:i<ys.length
          · have e2:rz ys i=rd ys (i:Int):=if_pos h2
            rw [if_pos (by omega),if_pos (by omega),←e1,←e2,w64' (x:=c+rz xs i) (by omega) (by omega),w64' (x:=c+rz xs i+rz ys i) (by omega) (by omega),Int.tmod_eq_emod_of_nonneg (by omega),Int.tdiv_eq_ediv_of_nonneg (by omega),w64' (by omega) (by omega),w64' (by omega) (by omega)]
            rfl
          · have e2:rz ys i=0:=if_neg h2
            rw [if_neg (by omega),if_pos (by omega),←e1,e2,w64' (x:=c+rz xs i) (by omega) (by omega),Int.tmod_eq_emod_of_nonneg (by omega),Int.tdiv_eq_ediv_of_nonneg (by omega),w64' (by omega) (by omega),w64' (by omega) (by omega),Int.add_zero]
            rfl
        · have e1:rz xs i=0:=if_neg h1
          rw [if_neg (by omega)]
          by_cases h2:i<ys.length
          · have e2:rz ys i=rd ys (i:Int):=if_pos h2
            rw [if_pos (by omega),if_pos (by omega),if_pos (by omega),←e2,e1,w64' (x:=c+rz ys i) (by omega) (by omega),Int.tmod_eq_emod_of_nonneg (by omega),Int.tdiv_eq_ediv_of_nonneg (by omega),w64' (by omega) (by omega),w64' (by omega) (by omega),Int.add_zero]
            rfl
          · have e2:rz ys i=0:=if_neg h2
            rw [if_neg (by omega),if_pos (by omega),e1,e2,Int.tmod_eq_emod_of_nonneg (by omega),Int.tdiv_eq_ediv_of_nonneg (by omega),w64' (by omega) (by omega),w64' (by omega) (by omega),Int.add_zero,Int.add_zero]
            rfl
      refine Ev.step (fun k => ?_) hj
      simp only [c1_Plus.l0]
      by_cases h1:i<xs.length
      · rw [if_pos (by omega)]
      · rw [if_neg (by omega)]
        by_cases h2:i<ys.length
        · rw [if_pos (by omega)]
        · rw [if_neg (by omega),decide_eq_true (show c>0 by omega)]
    · have hc:c=0:=by omega
      subst hc
      rw [List.drop_eq_nil_of_le (by omega),List.drop_eq_nil_of_le (by omega)] at hv
      simp only [lv,Int.add_zero,Int.mul_zero] at hv
      have ht:=trim_ev out.length out rfl (by omega) hod
      rw [hv,Int.toNat_natCast] at ht
      have hj:Ev (fun k=>c1_Plus.j1 k xs ys out 0 (i:Int) false) (T n):=by
        refine Ev.step (f:=fun k=>(c1_trim.f k out).bind fun t238=>((c1_text.f t238).bind fun t241=>(some t241))) (fun k => ?_) (Ev.bind ht ?_)
        · simp only [c1_Plus.j1]
          rw [if_neg (by simp)]
        · simp only [zde n hn,Option.bind_some]
          exact Ev.now _
      refine Ev.step (fun k => ?_) hj
      simp only [c1_Plus.l0]
      rw [if_neg (by omega),if_neg (by omega)]
      rfl
def Fine (n:Nat):Prop:=(T n).size≤274877906944
theorem Fine.lim {n:Nat} (h:Fine n):(lim n).length≤274877906944:=by have:=zaW n; unfold Fine at h; omega
theorem plus_ev {a b:Nat} (ha:Fine a) (hb:Fine b) (hc:Fine (a+b)):Ev (fun k=>c1_Plus.f k (T a) (T b)) (T (a+b)):=by
  unfold c1_Plus.f
  refine Ev.bind (limbs_T a (by unfold Fine at ha; omega)) (Ev.bind (limbs_T b (by unfold Fine at hb; omega)) ?_)
  refine plus_loop _ _ (zcg a) (zcg b) ha.lim hb.lim (a+b) (by have:=hc.lim; omega) ((lim a).length+(lim b).length+2) 0 [] 0 rfl Ld.nil (by decide) (by decide) (by omega) (fun _=>rfl) (by omega) ?_
  rw [List.drop_zero,List.drop_zero,zbH,zbH]
  simp [lv]
end Go.Proofs.ZP
end
