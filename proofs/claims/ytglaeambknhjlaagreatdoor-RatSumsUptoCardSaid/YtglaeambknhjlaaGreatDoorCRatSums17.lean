/- Texts under the proof, joined by a program (prune.py): QSumRef. -/
import Derived.Test.YtglaeambknhjlaaGreatDoorCRatSums16
set_option linter.unusedVariables false
set_option linter.unusedSimpArgs false
set_option exponentiation.threshold 20001
set_option maxHeartbeats 8000000
set_option maxRecDepth 100000
section
namespace Go.Proofs.ZQ
open Go.RowKit Go.Proofs.ZW.Wa Go.Proofs.ZP Go.Proofs.ZW.Wb Go.Proofs.ZW.Wc
theorem all_ref_yes (A:Option Addr) (c:Nat) (ps:List (ByteArray×ByteArray)) (X:Nat→Rat) (hx:∀ j (h:j<ps.length),RR ps[j].1 ps[j].2 (X j)) (w:World) (hr:RowR w A ps) (hn:ps.length≤1048576) :
    Calls Tryz.prog 116 #[.slice A ps.length c] w fun e w'=>e = .returned (.bool true)∧Below w.heap.size w w':=by
  have HRR:=Lib.hid hr
  have HX:=Lib.hid hx
  skip
  have HBA:=Lib.hid (Below.refl w.heap.size w)
  clear hr hx
  go_enter Tryz.func116,Tryz.ntmps116
  go_wp2_with fail
  go_loopw [7] (fun v wr=>∃ i:Nat,i≤ps.length∧v = .int .i64 i∧Hid (Below w.heap.size w wr)) (fun v _=>ps.length-(intOf v).toNat)
  case atStart=>exact ⟨0,Nat.zero_le _,by go_num,HBA⟩
  case round =>
    obtain ⟨i,hi,rfl,HB⟩:=hrel
    clear HBA
    by_cases him:i<ps.length
    · have hin:i<ps.length:=by omega
      obtain ⟨b,o,rfl,hlb,k0,k1⟩:=(HRR.out.below HB.out) i hin
      have HA:=Lib.hid (zc7 (HX.out i hin))
      have HRB:=Lib.hid (RbAt.new wr ps[i].1 ps[i].2)
      have HB1:=Lib.hid (zaa HB.out (.cells #[.string ps[i].1,.string ps[i].2] 23))
      have c0:=HRB.out.c0
      have c1:=HRB.out.c1
      go_wp2_with fail
      refine (HA.out _).mono ?_
      rintro e w2 ⟨rfl,hb2⟩
      have HB2:=Lib.hid (bthen HB1.out hb2)
      clear hb2 c0 c1 k0 k1 hlb HB1 HRB HB
      go_wp2
      go_roundw
      case rel=>exact ⟨i+1,by omega,by go_num,HB2⟩
      case measure=>simp [intOf]; omega
    · obtain rfl:i=ps.length:=by omega
      go_wp2
      go_ret
      exact ⟨rfl,HB.out⟩
theorem all_ref_no (A:Option Addr) (c:Nat) (ps:List (ByteArray×ByteArray)) (X:Nat→Rat) (m:Nat) (hm:m<ps.length) (hx:∀ j (h:j<ps.length),j<m→RR ps[j].1 ps[j].2 (X j)) (hno:¬ ∃ x,RR ps[m].1 ps[m].2 x) (w:World) (hr:RowR w A ps) (hn:ps.length≤1048576) :
    Calls Tryz.prog 116 #[.slice A ps.length c] w fun e w'=>e = .returned (.bool false)∧Below w.heap.size w w':=by
  have HRR:=Lib.hid hr
  have HX:=Lib.hid hx
  have HNO:=Lib.hid (right_ans_no hno)
  have HBA:=Lib.hid (Below.refl w.heap.size w)
  clear hr hx hno
  go_enter Tryz.func116,Tryz.ntmps116
  go_wp2_with fail
  go_loopw [7] (fun v wr=>∃ i:Nat,i≤m∧v = .int .i64 i∧Hid (Below w.heap.size w wr)) (fun v _=>ps.length-(intOf v).toNat)
  case atStart=>exact ⟨0,Nat.zero_le _,by go_num,HBA⟩
  case round =>
    obtain ⟨i,hi,rfl,HB⟩:=hrel
    clear HBA
    by_cases him:i<m
    · have hin:i<ps.length:=by omega
      obtain ⟨b,o,rfl,hlb,k0,k1⟩:=(HRR.out.below HB.out) i hin
      have HA:=Lib.hid (zc7 (HX.out i hin him))
      have HRB:=Lib.hid (RbAt.new wr ps[i].1 ps[i].2)
      have HB1:=Lib.hid (zaa HB.out (.cells #[.string ps[i].1,.string ps[i].2] 23))
      have c0:=HRB.out.c0
      have c1:=HRB.out.c1
      go_wp2_with fail
      refine (HA.out _).mono ?_
      rintro e w2 ⟨rfl,hb2⟩
      have HB2:=Lib.hid (bthen HB1.out hb2)
      clear hb2 c0 c1 k0 k1 hlb HB1 HRB HB
      go_wp2
      go_roundw
      case rel=>exact ⟨i+1,by omega,by go_num,HB2⟩
      case measure=>simp [intOf]; omega
    · obtain rfl:i=m:=by omega
      obtain ⟨b,o,rfl,hlb,k0,k1⟩:=(HRR.out.below HB.out) i hm
      have HRB:=Lib.hid (RbAt.new wr ps[i].1 ps[i].2)
      have HB1:=Lib.hid (zaa HB.out (.cells #[.string ps[i].1,.string ps[i].2] 23))
      have c0:=HRB.out.c0
      have c1:=HRB.out.c1
      go_wp2_with fail
      refine (HNO.out _).mono ?_
      rintro e w2 ⟨rfl,hb2⟩
      have HB2:=Lib.hid (bthen HB1.out hb2)
      clear hb2 c0 c1 k0 k1 hlb HB1 HRB HB
      go_wp2
      go_ret
      exact ⟨rfl,HB2.out⟩
theorem set3_other {w:World} {D k:Nat} (h:k≠D) (x y z:Value):(((w.setCell ⟨D,0,none⟩ x).setCell ⟨D,1,none⟩ y).setCell ⟨D,2,none⟩ z).heap[k]? = w.heap[k]?:=
  ((Below.heap_setCell ((w.setCell ⟨D,0,none⟩ x).setCell ⟨D,1,none⟩ y) ⟨D,2,none⟩ z k h).trans (Below.heap_setCell (w.setCell ⟨D,0,none⟩ x) ⟨D,1,none⟩ y k h)).trans (Below.heap_setCell w ⟨D,0,none⟩ x k h)
theorem sum_sz {X:Nat→Rat} {N:Nat} (hx:∀ j,j<N→Sz 600 (X j)):∀ n,n≤N→N≤1048576→Sz (601*n+1) (fv (fun x y=>x+y) 0 X n):=by
  intro n
  induction n with
  | zero=>intro _ _; exact ⟨(zax (k:=1) (n:=0) (by decide)).2 (by decide),(zax (k:=1) (n:=1) (by decide)).2 (by decide)⟩
  | succ n ih =>
    intro h hN
    have h1:=(Plus_Fr2 (ih (by omega) hN) (hx n (by omega)) (by omega)).2
    rw [show 601*(n+1)+1=601*n+1+600+1 by omega]
    exact h1
theorem sum_ref_yes (A:Option Addr) (c:Nat) (ps:List (ByteArray×ByteArray)) (X:Nat→Rat) (w:World) (hr:RowR w A ps) (hn:ps.length≤1048576) (hx:∀ j (h:j<ps.length),RR ps[j].1 ps[j].2 (X j)) :
    Calls Tryz.prog 40 #[.slice A ps.length c] w fun e w'=>e = .returned (.tuple #[.agg #[.string (rat_Sum.v X ps.length).1,.string (rat_Sum.v X ps.length).2.1],.int .i64 (rat_Sum.v X ps.length).2.2])∧Below w.heap.size w w':=by
  have HR:=Lib.hid (RbAt.new w ⟨#[]⟩ ⟨#[]⟩)
  have HBA:=Lib.hid (zaa (Below.refl w.heap.size w) (.cells #[.string ⟨#[]⟩,.string ⟨#[]⟩] 23))
  have HRR:=Lib.hid (hr.below HBA.out)
  have HA:=Lib.hid (all_ref_yes A c ps X hx _ HRR.out hn)
  have HX:=Lib.hid hx
  have HR0:=Lib.hid hr
  clear hr hx
  go_enter Tryz.func40,Tryz.ntmps40
  go_wp2_with fail
  generalize w.alloc (.cells #[.string ⟨#[]⟩,.string ⟨#[]⟩] 23)=W0 at *
  refine HA.out.mono ?_
  rintro e w1 ⟨rfl,hb1⟩
  have HR1:=Lib.hid ((HR.out.below hb1).alloc (.cells #[.bool false,.string ⟨#[48]⟩,.string ⟨#[49]⟩] 66))
  have HB1:=Lib.hid (zaa (bthen HBA.out hb1) (.cells #[.bool false,.string ⟨#[48]⟩,.string ⟨#[49]⟩] 66))
  have HF1:=Lib.hid (FrAt.new w1 false ⟨#[48]⟩ ⟨#[49]⟩)
  have HD:=Lib.hid (show w.heap.size≤w1.heap.size∧w.heap.size≠w1.heap.size by
    have h1:=zar (HR.out.below hb1)
    omega)
  clear hb1 HR HBA HRR HA
  go_wp2
  generalize hDe:w1.heap.size=D at *
  have HXS:=Lib.hid (fun j (hj:j<ps.length)=>rr_sz (HX.out j hj))
  have HST:=Lib.hid (show FrAt (w1.alloc (.cells #[.bool false,.string ⟨#[48]⟩,.string ⟨#[49]⟩] 66)) D (Fr (fv (fun x y=>x+y) 0 X 0)).1 (Fr (fv (fun x y=>x+y) 0 X 0)).2.1 (Fr (fv (fun x y=>x+y) 0 X 0)).2.2 by
    have e:Fr (fv (fun x y=>x+y) 0 X 0)=(false,⟨#[48]⟩,⟨#[49]⟩):=by
      rw [←T_zero,T_1]
      rfl
    rw [e]
    exact HF1.out)
  have HBW:=Lib.hid (Below.refl (w1.alloc (.cells #[.bool false,.string ⟨#[48]⟩,.string ⟨#[49]⟩] 66)).heap.size (w1.alloc (.cells #[.bool false,.string ⟨#[48]⟩,.string ⟨#[49]⟩] 66)))
  clear hDe HF1
  go_loopw [14] (fun v wr=>∃ i:Nat,i≤ps.length∧v = .int .i64 i∧Hid (FrAt wr D (Fr (fv (fun x y=>x+y) 0 X i)).1 (Fr (fv (fun x y=>x+y) 0 X i)).2.1 (Fr (fv (fun x y=>x+y) 0 X i)).2.2)∧Hid (RbAt wr w.heap.size ⟨#[]⟩ ⟨#[]⟩)∧Hid (Below w.heap.size w wr)) (fun v _=>ps.length-(intOf v).toNat)
  case atStart=>exact ⟨0,Nat.zero_le _,by go_num,HST,HR1,HB1⟩
  case round =>
    obtain ⟨i,hi,rfl,HST,HR,HB⟩:=hrel
    clear HR1 HB1 HBW
    by_cases hin:i<ps.length
    · obtain ⟨b,o,rfl,hlb,k0,k1⟩:=(HR0.out.below HB.out) i hin
      have HRD:=Lib.hid (read_ans (HX.out i hin))
      have HPL:=Lib.hid (plus_ans2 (sum_sz HXS.out i hi hn) (HXS.out i hin) (by omega))
      unfold FrV at HRD HPL
      have hfn:fv (fun x y=>x+y) 0 X i+X i=fv (fun x y=>x+y) 0 X (i+1):=rfl
      rw [hfn] at HPL
      generalize (Fr (X i)).1=y0 at HRD HPL
      generalize (Fr (X i)).2.1=y1 at HRD HPL
      generalize (Fr (X i)).2.2=y2 at HRD HPL
      generalize (Fr (fv (fun x y=>x+y) 0 X i)).1=x0 at HST HPL
      generalize (Fr (fv (fun x y=>x+y) 0 X i)).2.1=x1 at HST HPL
      generalize (Fr (fv (fun x y=>x+y) 0 X i)).2.2=x2 at HST HPL
      generalize hz0:(Fr (fv (fun x y=>x+y) 0 X (i+1))).1=z0 at HPL
      generalize hz1:(Fr (fv (fun x y=>x+y) 0 X (i+1))).2.1=z1 at HPL
      generalize hz2:(Fr (fv (fun x y=>x+y) 0 X (i+1))).2.2=z2 at HPL
      have HZ:=Lib.hid (show (Fr (fv (fun x y=>x+y) 0 X (i+1))).1=z0∧(Fr (fv (fun x y=>x+y) 0 X (i+1))).2.1=z1∧(Fr (fv (fun x y=>x+y) 0 X (i+1))).2.2=z2 from ⟨hz0,hz1,hz2⟩)
      have hba:=zaa (Below.refl wr.heap.size wr) (.cells #[.string ps[i].1,.string ps[i].2] 23)
      have HFa:=Lib.hid (HST.out.below hba)
      have HRa:=Lib.hid (HR.out.below hba)
      have HBa:=Lib.hid (bthen HB.out hba)
      have HTa:=Lib.hid (RbAt.new wr ps[i].1 ps[i].2)
      clear hz0 hz1 hz2 hfn hba
      go_wp2_with fail
      generalize hW7:wr.alloc (.cells #[.string ps[i].1,.string ps[i].2] 23)=W7 at *
      generalize hT7:wr.heap.size=T7 at *
      have hTD:T7≠D:=by have:=zar HST.out; omega
      have hTl:=zar HTa.out
      have hDl:=zar HFa.out
      have d0:=HTa.out.c0
      have d1:=HTa.out.c1
      have c0:=HFa.out.c0
      have c1:=HFa.out.c1
      have c2:=HFa.out.c2
      clear k0 k1 hlb HST HR HB
      go_region_with
          ((first
            | (go_simp; go_at_call 61; (with_reducible change Calls _ _ #[.agg #[.string ps[i].1,.string ps[i].2]] _ _); refine (HRD.out _).mono ?_; rintro e wX ⟨rfl,hbX⟩; have fX:=HFa.out.below (show Below W7.heap.size W7 wX from by repeat (with_reducible first|exact hbX|exact hbP|exact Below.refl _ _|apply zap|apply zab|refine bthen ?_ hbX|refine bthen ?_ hbP)); have c0':=fX.c0; have c1':=fX.c1; have c2':=fX.c2)
            | (go_simp; go_at_call 60; (with_reducible change Calls _ _ #[.agg #[.bool x0,.string x1,.string x2],.agg #[.bool y0,.string y1,.string y2]] _ _); refine (HPL.out _).mono ?_; rintro e wP ⟨rfl,hbP⟩; have fP:=HFa.out.below (show Below W7.heap.size W7 wP from by repeat (with_reducible first|exact hbX|exact hbP|exact Below.refl _ _|apply zap|apply zab|refine bthen ?_ hbX|refine bthen ?_ hbP)); have e0':=fP.c0; have e1':=fP.c1; have e2':=fP.c2; have f0':=zae fP 0; have f1':=zae fP 1; have f2':=zae fP 2)))
      all_goals
        have hPP:Below W7.heap.size W7 wP:=by repeat (with_reducible first|exact hbX|exact hbP|exact Below.refl _ _|apply zap|apply zab|refine bthen ?_ hbX|refine bthen ?_ hbP)
        obtain ⟨hF9,hB9⟩:=fr_put fP (bthen HBa.out hPP) HD.out.1 z0 z1 z2
        have HF9:=Lib.hid (show FrAt _ D (Fr (fv (fun x y=>x+y) 0 X (i+1))).1 (Fr (fv (fun x y=>x+y) 0 X (i+1))).2.1 (Fr (fv (fun x y=>x+y) 0 X (i+1))).2.2 by
          rw [HZ.out.1,HZ.out.2.1,HZ.out.2.2]
          exact hF9)
        have HB9:=Lib.hid hB9
        have HR9:=Lib.hid (show RbAt (((wP.setCell ⟨D,0,none⟩ (.bool z0)).setCell ⟨D,1,none⟩ (.string z1)).setCell ⟨D,2,none⟩ (.string z2)) w.heap.size ⟨#[]⟩ ⟨#[]⟩ from (set3_other HD.out.2 _ _ _).trans (HRa.out.below hPP))
        clear hF9 hB9 hPP
        go_wp2
        go_roundw
        case rel=>exact ⟨i+1,by omega,by go_num,HF9,HR9,HB9⟩
        case measure=>simp [intOf]; omega
    · obtain rfl:i=ps.length:=by omega
      have HT:=Lib.hid (told_ans (fv (fun x y=>x+y) 0 X ps.length))
      unfold FrV at HT
      have HTT:=Lib.hid (show toldR (fv (fun x y=>x+y) 0 X ps.length)=rat_Sum.v X ps.length from rfl)
      rw [HTT.out] at HT
      generalize htt:rat_Sum.v X ps.length=tt at HT
      have HTU:=Lib.hid htt
      clear htt
      have c0:=HST.out.c0
      have c1:=HST.out.c1
      have c2:=HST.out.c2
      clear hin hi HTT
      go_wp2_with fail
      refine (HT.out _).mono ?_
      rintro e w3 ⟨rfl,hb3⟩
      have HR3:=Lib.hid (HR.out.below hb3)
      have HBA3:=Lib.hid (bthen HB.out hb3)
      clear hb3 HR HST HB c0 c1 c2
      obtain ⟨hF,hBF⟩:=zda HR3.out HBA3.out (Nat.le_refl _) tt.1 tt.2.1
      have cB0:=(HR3.out).c0
      have cB1:=(HR3.out).c1
      have fB0:=zae HR3.out 0
      have fB1:=zae HR3.out 1
      have HFF:=Lib.hid hF
      have HBF:=Lib.hid hBF
      clear hF hBF
      go_wp2
      refine bodyPost_ret (zaM rfl _ _ w.heap.size 23 #[.string tt.1,.string tt.2.1] (0,0) _ rfl HFF.out Tryz.underlying23 rfl (by kernel_rfl)) rfl ?_
      exact ⟨by rw [HTU.out]; rfl,HBF.out⟩
theorem sum_ref_no (A:Option Addr) (c:Nat) (ps:List (ByteArray×ByteArray)) (X:Nat→Rat) (m:Nat) (w:World) (hr:RowR w A ps) (hn:ps.length≤1048576) (hm:m<ps.length) (hx:∀ j (h:j<ps.length),j<m→RR ps[j].1 ps[j].2 (X j)) (hno:¬ ∃ x,RR ps[m].1 ps[m].2 x) :
    Calls Tryz.prog 40 #[.slice A ps.length c] w fun e w'=>e = .returned (.tuple #[.agg #[.string ⟨#[]⟩,.string ⟨#[]⟩],.int .i64 3])∧Below w.heap.size w w':=by
  have HR:=Lib.hid (RbAt.new w ⟨#[]⟩ ⟨#[]⟩)
  have HBA:=Lib.hid (zaa (Below.refl w.heap.size w) (.cells #[.string ⟨#[]⟩,.string ⟨#[]⟩] 23))
  have HA:=Lib.hid (all_ref_no A c ps X m hm hx hno _ (hr.below HBA.out) hn)
  clear hr hx hno
  go_enter Tryz.func40,Tryz.ntmps40
  go_wp2_with fail
  refine HA.out.mono ?_
  rintro e w1 ⟨rfl,hb1⟩
  have HR1:=Lib.hid (HR.out.below hb1)
  have HB1:=Lib.hid (bthen HBA.out hb1)
  clear hb1 HR HBA HA
  obtain ⟨hF,hBF⟩:=zda HR1.out HB1.out (Nat.le_refl _) ⟨#[]⟩ ⟨#[]⟩
  have cB0:=(HR1.out).c0
  have cB1:=(HR1.out).c1
  have fB0:=zae HR1.out 0
  have fB1:=zae HR1.out 1
  have HFF:=Lib.hid hF
  have HBF:=Lib.hid hBF
  clear hF hBF
  go_wp2
  refine bodyPost_ret (zaM rfl _ _ w.heap.size 23 #[.string ⟨#[]⟩,.string ⟨#[]⟩] (0,0) _ rfl HFF.out Tryz.underlying23 rfl (by kernel_rfl)) rfl ?_
  exact ⟨rfl,HBF.out⟩
theorem prod_ref_no (A:Option Addr) (c:Nat) (ps:List (ByteArray×ByteArray)) (X:Nat→Rat) (m:Nat) (w:World) (hr:RowR w A ps) (hn:ps.length≤1048576) (hm:m<ps.length) (hx:∀ j (h:j<ps.length),j<m→RR ps[j].1 ps[j].2 (X j)) (hno:¬ ∃ x,RR ps[m].1 ps[m].2 x) :
    Calls Tryz.prog 42 #[.slice A ps.length c] w fun e w'=>e = .returned (.tuple #[.agg #[.string ⟨#[]⟩,.string ⟨#[]⟩],.int .i64 3])∧Below w.heap.size w w':=by
  have HR:=Lib.hid (RbAt.new w ⟨#[]⟩ ⟨#[]⟩)
  have HBA:=Lib.hid (zaa (Below.refl w.heap.size w) (.cells #[.string ⟨#[]⟩,.string ⟨#[]⟩] 23))
  have HA:=Lib.hid (all_ref_no A c ps X m hm hx hno _ (hr.below HBA.out) hn)
  clear hr hx hno
  go_enter Tryz.func42,Tryz.ntmps42
  go_wp2_with fail
  refine HA.out.mono ?_
  rintro e w1 ⟨rfl,hb1⟩
  have HR1:=Lib.hid (HR.out.below hb1)
  have HB1:=Lib.hid (bthen HBA.out hb1)
  clear hb1 HR HBA HA
  obtain ⟨hF,hBF⟩:=zda HR1.out HB1.out (Nat.le_refl _) ⟨#[]⟩ ⟨#[]⟩
  have cB0:=(HR1.out).c0
  have cB1:=(HR1.out).c1
  have fB0:=zae HR1.out 0
  have fB1:=zae HR1.out 1
  have HFF:=Lib.hid hF
  have HBF:=Lib.hid hBF
  clear hF hBF
  go_wp2
  refine bodyPost_ret (zaM rfl _ _ w.heap.size 23 #[.string ⟨#[]⟩,.string ⟨#[]⟩] (0,0) _ rfl HFF.out Tryz.underlying23 rfl (by kernel_rfl)) rfl ?_
  exact ⟨rfl,HBF.out⟩
theorem fv_zero {X:Nat→Rat} {j n:Nat} (h:j<n) (hz:X j=0):fv (fun x y=>x*y) 1 X n=0:=by
  induction n with
  | zero=>omega
  | succ n ih =>
    show fv (fun x y=>x*y) 1 X n*X n=0
    by_cases e:j=n
    · subst e; rw [hz,Rat.mul_zero]
    · rw [ih (by omega),Rat.zero_mul]
theorem num_zero {a b:ByteArray} {x:Rat} (h:RR a b x):(a.toList == ([48]:List UInt8))=decide (x=0):=by
  rw [Bool.eq_iff_iff,beq_iff_eq,decide_eq_true_eq,b48,h.num]
  constructor
  · intro e
    have e2:wtext x.num=wtext 0:=e.trans (zaU (x:=0) (by decide)).symm
    exact Rat.num_eq_zero.1 (wtext_inj e2)
  · rintro rfl
    exact zaU (x:=0) (by decide)
theorem prod_sz {X:Nat→Rat} {N:Nat} (hx:∀ j,j<N→Sz 600 (X j)):∀ n,n≤N→N≤1048576→Sz (601*n+1) (fv (fun x y=>x*y) 1 X n):=by
  intro n
  induction n with
  | zero=>intro _ _; exact ⟨(zax (k:=1) (n:=1) (by decide)).2 (by decide),(zax (k:=1) (n:=1) (by decide)).2 (by decide)⟩
  | succ n ih =>
    intro h hN
    have h1:=(Times_Fr2 (ih (by omega) hN) (hx n (by omega)) (by omega)).2
    show Sz (601*(n+1)+1) (fv (fun x y=>x*y) 1 X n*X n)
    exact ⟨by have:=h1.1; omega,by have:=h1.2; omega⟩
theorem prod_ref_yes (A : Option Addr) (c : Nat) (ps : List (ByteArray × ByteArray)) (X : Nat → Rat) (w : World) (hr : RowR w A ps) (hn : ps.length ≤ 1048576) (hx : ∀ j (h : j < ps.length), RR ps[j].1 ps[j].2 (X j)) :
    Calls Tryz.prog 42 #[.slice A ps.length c] w fun e w'=>e = .returned (.tuple #[.agg #[.string (rat_Prod.v X ps.length).1,.string (rat_Prod.v X ps.length).2.1],.int .i64 (rat_Prod.v X ps.length).2.2])∧Below w.heap.size w w':=by
  have HR:=Lib.hid (RbAt.new w ⟨#[]⟩ ⟨#[]⟩)
  have HBA:=Lib.hid (zaa (Below.refl w.heap.size w) (.cells #[.string ⟨#[]⟩,.string ⟨#[]⟩] 23))
  have HRR:=Lib.hid (hr.below HBA.out)
  have HA:=Lib.hid (all_ref_yes A c ps X hx _ HRR.out hn)
  have HX:=Lib.hid hx
  have HR0:=Lib.hid hr
  clear hr hx
  go_enter Tryz.func42,Tryz.ntmps42
  go_wp2_with fail
  generalize w.alloc (.cells #[.string ⟨#[]⟩,.string ⟨#[]⟩] 23)=W0 at *
  refine HA.out.mono ?_
  rintro e w1 ⟨rfl,hb1⟩
  have HR1:=Lib.hid ((HR.out.below hb1).alloc (.cells #[.bool false,.string ⟨#[49]⟩,.string ⟨#[49]⟩] 66))
  have HB1:=Lib.hid (zaa (bthen HBA.out hb1) (.cells #[.bool false,.string ⟨#[49]⟩,.string ⟨#[49]⟩] 66))
  have HF1:=Lib.hid (FrAt.new w1 false ⟨#[49]⟩ ⟨#[49]⟩)
  have HD:=Lib.hid (show w.heap.size≤w1.heap.size∧w.heap.size≠w1.heap.size by
    have h1:=zar (HR.out.below hb1)
    omega)
  clear hb1 HR HBA HRR HA
  go_wp2
  generalize hDe:w1.heap.size=D at *
  have HXS:=Lib.hid (fun j (hj:j<ps.length)=>rr_sz (HX.out j hj))
  have HBW:=Lib.hid (Below.refl (w1.alloc (.cells #[.bool false,.string ⟨#[49]⟩,.string ⟨#[49]⟩] 66)).heap.size (w1.alloc (.cells #[.bool false,.string ⟨#[49]⟩,.string ⟨#[49]⟩] 66)))
  clear hDe
  go_loopw [16] (fun v wr=>∃ i:Nat,i≤ps.length∧v = .int .i64 i∧Hid (FrAt wr D false ⟨#[49]⟩ ⟨#[49]⟩)∧Hid (RbAt wr w.heap.size ⟨#[]⟩ ⟨#[]⟩)∧Hid (Below w.heap.size w wr)) (fun v _=>ps.length-(intOf v).toNat)
  case atStart=>exact ⟨0,Nat.zero_le _,by go_num,HF1,HR1,HB1⟩
  case round =>
    obtain ⟨i,hi,rfl,HF,HR,HB⟩:=hrel
    clear HF1 HR1 HB1 HBW
    by_cases hin:i<ps.length
    · obtain ⟨b,o,rfl,hlb,k0,k1⟩:=(HR0.out.below HB.out) i hin
      have HTa:=Lib.hid (RbAt.new wr ps[i].1 ps[i].2)
      have hba:=zaa (Below.refl wr.heap.size wr) (.cells #[.string ps[i].1,.string ps[i].2] 23)
      have HFa:=Lib.hid (HF.out.below hba)
      have HRa:=Lib.hid (HR.out.below hba)
      have HBa:=Lib.hid (bthen HB.out hba)
      have hzq:=num_zero (HX.out i hin)
      have d0:=HTa.out.c0
      clear hba HF HR HB
      by_cases hz:X i=0
      · rw [decide_eq_true hz] at hzq
        have HV:=Lib.hid (show rat_Prod.v X ps.length=(⟨#[48]⟩,⟨#[49]⟩,0) from (congrArg toldR (fv_zero hin hz)).trans toldR_zero)
        clear hz
        obtain ⟨hF,hBF⟩:=zda HRa.out HBa.out (Nat.le_refl _) ⟨#[48]⟩ ⟨#[49]⟩
        have cB0:=(HRa.out).c0
        have cB1:=(HRa.out).c1
        have fB0:=zae HRa.out 0
        have fB1:=zae HRa.out 1
        have HFF:=Lib.hid hF
        have HBF:=Lib.hid hBF
        clear hF hBF
        go_wp2
        refine bodyPost_ret (zaM rfl _ _ w.heap.size 23 #[.string ⟨#[48]⟩,.string ⟨#[49]⟩] (0,0) _ rfl HFF.out Tryz.underlying23 rfl (by kernel_rfl)) rfl ?_
        exact ⟨by rw [HV.out]; rfl,HBF.out⟩
      · rw [decide_eq_false hz] at hzq
        clear hz hlb
        go_wp2
        go_roundw
        case rel=>exact ⟨i+1,by omega,by go_num,HFa,HRa,HBa⟩
        case measure=>simp [intOf]; omega
    · obtain rfl:i=ps.length:=by omega
      clear hin hi
      have HST:=Lib.hid (show FrAt wr D (Fr (fv (fun x y=>x*y) 1 X 0)).1 (Fr (fv (fun x y=>x*y) 1 X 0)).2.1 (Fr (fv (fun x y=>x*y) 1 X 0)).2.2 by
        have e:Fr (fv (fun x y=>x*y) 1 X 0)=(false,⟨#[49]⟩,⟨#[49]⟩):=by
          rw [T_1]
          rfl
        rw [e]
        exact HF.out)
      have HR1:=HR
      have HB1:=HB
      have HBW:=Lib.hid (Below.refl wr.heap.size wr)
      clear HR HB HF
      go_wp2
      go_loopw [27] (fun v wr=>∃ i:Nat,i≤ps.length∧v = .int .i64 i∧Hid (FrAt wr D (Fr (fv (fun x y=>x*y) 1 X i)).1 (Fr (fv (fun x y=>x*y) 1 X i)).2.1 (Fr (fv (fun x y=>x*y) 1 X i)).2.2)∧Hid (RbAt wr w.heap.size ⟨#[]⟩ ⟨#[]⟩)∧Hid (Below w.heap.size w wr)) (fun v _=>ps.length-(intOf v).toNat)
      case atStart=>exact ⟨0,Nat.zero_le _,by go_num,HST,HR1,HB1⟩
      case round =>
        obtain ⟨i,hi,rfl,HST,HR,HB⟩:=hrel
        clear HR1 HB1 HBW
        by_cases hin:i<ps.length
        · obtain ⟨b,o,rfl,hlb,k0,k1⟩:=(HR0.out.below HB.out) i hin
          have HRD:=Lib.hid (read_ans (HX.out i hin))
          have HPL:=Lib.hid (times_ans2 (prod_sz HXS.out i hi hn) (HXS.out i hin) (by omega))
          unfold FrV at HRD HPL
          have hfn:fv (fun x y=>x*y) 1 X i*X i=fv (fun x y=>x*y) 1 X (i+1):=rfl
          rw [hfn] at HPL
          generalize (Fr (X i)).1=y0 at HRD HPL
          generalize (Fr (X i)).2.1=y1 at HRD HPL
          generalize (Fr (X i)).2.2=y2 at HRD HPL
          generalize (Fr (fv (fun x y=>x*y) 1 X i)).1=x0 at HST HPL
          generalize (Fr (fv (fun x y=>x*y) 1 X i)).2.1=x1 at HST HPL
          generalize (Fr (fv (fun x y=>x*y) 1 X i)).2.2=x2 at HST HPL
          generalize hz0:(Fr (fv (fun x y=>x*y) 1 X (i+1))).1=z0 at HPL
          generalize hz1:(Fr (fv (fun x y=>x*y) 1 X (i+1))).2.1=z1 at HPL
          generalize hz2:(Fr (fv (fun x y=>x*y) 1 X (i+1))).2.2=z2 at HPL
          have HZ:=Lib.hid (show (Fr (fv (fun x y=>x*y) 1 X (i+1))).1=z0∧(Fr (fv (fun x y=>x*y) 1 X (i+1))).2.1=z1∧(Fr (fv (fun x y=>x*y) 1 X (i+1))).2.2=z2 from ⟨hz0,hz1,hz2⟩)
          have hba:=zaa (Below.refl wr.heap.size wr) (.cells #[.string ps[i].1,.string ps[i].2] 23)
          have HFa:=Lib.hid (HST.out.below hba)
          have HRa:=Lib.hid (HR.out.below hba)
          have HBa:=Lib.hid (bthen HB.out hba)
          have HTa:=Lib.hid (RbAt.new wr ps[i].1 ps[i].2)
          clear hz0 hz1 hz2 hfn hba
          go_wp2_with fail
          generalize hW7:wr.alloc (.cells #[.string ps[i].1,.string ps[i].2] 23)=W7 at *
          generalize hT7:wr.heap.size=T7 at *
          have hTD:T7≠D:=by have:=zar HST.out; omega
          have hTl:=zar HTa.out
          have hDl:=zar HFa.out
          have d0:=HTa.out.c0
          have d1:=HTa.out.c1
          have c0:=HFa.out.c0
          have c1:=HFa.out.c1
          have c2:=HFa.out.c2
          clear k0 k1 hlb HST HR HB
          go_region_with
              ((first
                | (go_simp; go_at_call 61; (with_reducible change Calls _ _ #[.agg #[.string ps[i].1,.string ps[i].2]] _ _); refine (HRD.out _).mono ?_; rintro e wX ⟨rfl,hbX⟩; have fX:=HFa.out.below (show Below W7.heap.size W7 wX from by repeat (with_reducible first|exact hbX|exact hbP|exact Below.refl _ _|apply zap|apply zab|refine bthen ?_ hbX|refine bthen ?_ hbP)); have c0':=fX.c0; have c1':=fX.c1; have c2':=fX.c2)
                | (go_simp; go_at_call 64; (with_reducible change Calls _ _ #[.agg #[.bool x0,.string x1,.string x2],.agg #[.bool y0,.string y1,.string y2]] _ _); refine (HPL.out _).mono ?_; rintro e wP ⟨rfl,hbP⟩; have fP:=HFa.out.below (show Below W7.heap.size W7 wP from by repeat (with_reducible first|exact hbX|exact hbP|exact Below.refl _ _|apply zap|apply zab|refine bthen ?_ hbX|refine bthen ?_ hbP)); have e0':=fP.c0; have e1':=fP.c1; have e2':=fP.c2; have f0':=zae fP 0; have f1':=zae fP 1; have f2':=zae fP 2)))
          all_goals
            have hPP:Below W7.heap.size W7 wP:=by repeat (with_reducible first|exact hbX|exact hbP|exact Below.refl _ _|apply zap|apply zab|refine bthen ?_ hbX|refine bthen ?_ hbP)
            obtain ⟨hF9,hB9⟩:=fr_put fP (bthen HBa.out hPP) HD.out.1 z0 z1 z2
            have HF9:=Lib.hid (show FrAt _ D (Fr (fv (fun x y=>x*y) 1 X (i+1))).1 (Fr (fv (fun x y=>x*y) 1 X (i+1))).2.1 (Fr (fv (fun x y=>x*y) 1 X (i+1))).2.2 by
              rw [HZ.out.1,HZ.out.2.1,HZ.out.2.2]
              exact hF9)
            have HB9:=Lib.hid hB9
            have HR9:=Lib.hid (show RbAt (((wP.setCell ⟨D,0,none⟩ (.bool z0)).setCell ⟨D,1,none⟩ (.string z1)).setCell ⟨D,2,none⟩ (.string z2)) w.heap.size ⟨#[]⟩ ⟨#[]⟩ from (set3_other HD.out.2 _ _ _).trans (HRa.out.below hPP))
            clear hF9 hB9 hPP
            go_wp2
            go_roundw
            case rel=>exact ⟨i+1,by omega,by go_num,HF9,HR9,HB9⟩
            case measure=>simp [intOf]; omega
        · obtain rfl:i=ps.length:=by omega
          have HT:=Lib.hid (told_ans (fv (fun x y=>x*y) 1 X ps.length))
          unfold FrV at HT
          have HTT:=Lib.hid (show toldR (fv (fun x y=>x*y) 1 X ps.length)=rat_Prod.v X ps.length from rfl)
          rw [HTT.out] at HT
          generalize htt:rat_Prod.v X ps.length=tt at HT
          have HTU:=Lib.hid htt
          clear htt
          have c0:=HST.out.c0
          have c1:=HST.out.c1
          have c2:=HST.out.c2
          clear hin hi HTT
          go_wp2_with fail
          refine (HT.out _).mono ?_
          rintro e w3 ⟨rfl,hb3⟩
          have HR3:=Lib.hid (HR.out.below hb3)
          have HBA3:=Lib.hid (bthen HB.out hb3)
          clear hb3 HR HST HB c0 c1 c2
          obtain ⟨hF,hBF⟩:=zda HR3.out HBA3.out (Nat.le_refl _) tt.1 tt.2.1
          have cB0:=(HR3.out).c0
          have cB1:=(HR3.out).c1
          have fB0:=zae HR3.out 0
          have fB1:=zae HR3.out 1
          have HFF:=Lib.hid hF
          have HBF:=Lib.hid hBF
          clear hF hBF
          go_wp2
          refine bodyPost_ret (zaM rfl _ _ w.heap.size 23 #[.string tt.1,.string tt.2.1] (0,0) _ rfl HFF.out Tryz.underlying23 rfl (by kernel_rfl)) rfl ?_
          exact ⟨by rw [HTU.out]; rfl,HBF.out⟩
end Go.Proofs.ZQ
end
