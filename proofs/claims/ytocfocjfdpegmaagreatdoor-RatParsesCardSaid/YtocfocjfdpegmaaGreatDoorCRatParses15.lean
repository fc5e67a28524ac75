/- Texts under the proof, joined by a program (prune.py): HFormed, HParse1, HDecimal. -/
import Derived.Test.YtocfocjfdpegmaaGreatDoorCRatParses09
import Derived.Test.YtocfocjfdpegmaaGreatDoorCRatParses07
set_option linter.unusedVariables false
set_option linter.unusedSimpArgs false
set_option exponentiation.threshold 20001
set_option maxHeartbeats 8000000
set_option maxRecDepth 100000
section
namespace Go.Proofs.ZP
open Go.RowKit Go.Proofs.ZW.Wa
def F0:Fm:=⟨0,false,false,⟨#[]⟩,0,⟨#[]⟩,false,⟨#[]⟩,false,0⟩
def Fm.end_ (s:ByteArray) (f:Fm):Bool:=!f.bad && decide (f.at_=s.size)
def cM:ByteArray:=⟨#[45]⟩
def cS:ByteArray:=⟨#[47]⟩
def cP:ByteArray:=⟨#[46]⟩
def cE:ByteArray:=⟨#[101,69]⟩
def cPM:ByteArray:=⟨#[43,45]⟩
def form1 (s:ByteArray):Fm:=let f:={ F0.sgn s cM with neg:=F0.sgV s cM != 0 }; { f.dig s with m:=f.digT s }
def formS (s:ByteArray) (f1:Fm):Fm:=let f:={ f1.sgn s cS with fraction:=true,slash:=(f1.sgn s cS).at_ }; { f.dig s with den:=f.digT s }
def formP (s:ByteArray) (f1:Fm):Fm:=if f1.sgV s cP=0 then f1.sgn s cP else let f:=f1.sgn s cP; { f.dig s with behind:=(f.digT s).size,m:=f.m++f.digT s }
def formE (s:ByteArray) (f1:Fm):Fm:=if f1.sgV s cE=0 then f1.sgn s cE else let f:=f1.sgn s cE; let g:={ f.sgn s cPM with minus:=f.sgV s cPM == 45 }; if g.bad then g else { g.dig s with exp:=g.digT s }
def formF (s:ByteArray):Fm:=if (form1 s).sgV s cS=0 then formE s (formP s ((form1 s).sgn s cS)) else formS s (form1 s)
def Okf (s:ByteArray) (f:Fm):Prop:=f.at_≤s.size
theorem Okf.sgn {s set:ByteArray} {f:Fm} (h:Okf s f):Okf s (f.sgn s set):=by
 unfold Okf Fm.sgn at *
 split
 ·rename_i hb
  unfold Fm.sgB at hb
  simp only [Bool.and_eq_true,decide_eq_true_eq] at hb
  have:=hb.1.2
  show f.at_+1≤s.size
  omega
 ·exact h
theorem Okf.dig {s:ByteArray} {f:Fm} (h:Okf s f):Okf s (f.dig s):=by
 unfold Okf Fm.dig at *
 have:=runN_le (l:=s.data.toList) (i:=f.at_) (by rw [zah]; exact h)
 rw [zah] at this
 exact this
theorem Fm.sgn_m (s set:ByteArray) (f:Fm):(f.sgn s set).m=f.m:=by unfold Fm.sgn; split<;>rfl
theorem zb3 (s:ByteArray) (f:Fm):(f.digT s).size≤s.size:=by unfold Fm.digT; rw [ByteArray.size_extract]; omega
theorem FSt.set {w0 w:World} {g:Nat} {s:ByteArray} {f f':Fm} (h:FSt w0 w g s f) (j:Nat) (v:Value) (he:(f.obj s).setIfInBounds j v=f'.obj s):FSt w0 (w.setCell ⟨g,j,none⟩ v) g s f':=
 ⟨(zav h.blk j v).trans (by rw [he]),h.ge,zag h.below h.ge⟩
theorem FSt.c {w0 w:World} {g:Nat} {s:ByteArray} {f:Fm} (h:FSt w0 w g s f) (j:Nat) (v:Value) (he:(f.obj s)[j]? = some v):w.cell? ⟨g,j,none⟩=some v:=(zaf h.blk j).trans he
theorem FSt.fz {w0 w:World} {g:Nat} {s:ByteArray} {f:Fm} (h:FSt w0 w g s f) (j:Nat):w.frozen? ⟨g,j,none⟩=false:=zad h.blk j
theorem FSt.start (w:World) (s:ByteArray):FSt w (w.alloc (.cells #[.string s,.int .i64 0,.bool false,.bool false,.string ⟨#[]⟩,.int .i64 0,.string ⟨#[]⟩,.bool false,.string ⟨#[]⟩,.bool false,.int .i64 0] 115)) w.heap.size s F0:=
 ⟨(zau w _).trans rfl,Nat.le_refl _,zaa (Below.refl _ _) _⟩
def FPost (s:ByteArray) (w:World) (e:Ending) (w':World):Prop:=∃ g,e = .returned (.tuple #[.pointer (some ⟨g,0,none⟩),.bool ((formF s).end_ s)])∧FSt w w' g s (formF s)
theorem FPost.mk' {s:ByteArray} {w w':World} {g:Nat} {f:Fm} (b:Bool) (hf:formF s=f) (hb:f.end_ s=b) (h:FSt w w' g s f):FPost s w (.returned (.tuple #[.pointer (some ⟨g,0,none⟩),.bool b])) w':=by
 subst hf; subst hb
 exact ⟨g,rfl,h⟩
theorem Fm.end_bad {s:ByteArray} {f:Fm} (h:f.bad=true):f.end_ s=false:=by unfold Fm.end_; rw [h]; rfl
theorem Fm.end_ok {s:ByteArray} {f:Fm} (h:f.bad=false):f.end_ s=((f.at_:Int) == (s.size:Int)):=by
 unfold Fm.end_
 rw [h,Bool.eq_iff_iff]
 simp only [Bool.not_false,Bool.true_and,decide_eq_true_eq,beq_iff_eq]
 omega
theorem zby (s:ByteArray) (w:World) (hs:s.size≤65536) :
  Calls Tryz.prog 112 #[.string s] w (FPost s w):=by
 have hs2:s.size≤1099511627776:=by omega
 have H0:=FSt.start w s
 have O0:Hid (Okf s F0):=Lib.hid (Nat.zero_le _)
 go_enter Tryz.func112,Tryz.ntmps112
 go_wp2_with fail
 generalize w.alloc (.cells #[.string s,.int .i64 0,.bool false,.bool false,.string ⟨#[]⟩,.int .i64 0,.string ⟨#[]⟩,.bool false,.string ⟨#[]⟩,.bool false,.int .i64 0] 115)=wa at *
 generalize hg:w.heap.size=g at H0 ⊢
 clear hg
 have H0:=Lib.hid H0
 obtain ⟨f0,hf0⟩:∃ f0,F0=f0:=⟨_,rfl⟩
 rw [hf0] at H0 O0
 have E0:=Lib.hid hf0
 clear hf0
 refine (zbO w _ g s ⟨#[45]⟩ f0 H0.out hs2 O0.out).mono ?_
 rintro e w1 ⟨rfl,h1⟩
 have O1:=Lib.hid (Okf.sgn (set:=⟨#[45]⟩) O0.out)
 obtain ⟨f1,hf1⟩:∃ f1,f0.sgn s ⟨#[45]⟩=f1:=⟨_,rfl⟩
 obtain ⟨v1,hv1⟩:∃ v1,f0.sgV s ⟨#[45]⟩=v1:=⟨_,rfl⟩
 rw [hf1] at h1 O1
 rw [hv1]
 have E1:=Lib.hid hf1
 have V1:=Lib.hid hv1
 have H1:=Lib.hid h1
 clear hf1 hv1 h1 H0
 have k3:=H1.out.c 3 (.bool f1.neg) rfl
 have z3:=H1.out.fz 3
 go_wp2_with fail
 have h2:FSt w (w1.setCell ⟨g,3,none⟩ (.bool (v1 != 0))) g s { f1 with neg:=v1 != 0 }:=H1.out.set 3 _ rfl
 clear k3 z3
 generalize w1.setCell ⟨g,3,none⟩ (.bool (v1 != 0))=w2 at *
 have O2:Hid (Okf s { f1 with neg:=v1 != 0 }):=O1
 obtain ⟨f2,hf2⟩:∃ f:Fm,{ f1 with neg:=v1 != 0 }=f:=⟨_,rfl⟩
 rw [hf2] at h2 O2
 have E2:=Lib.hid hf2
 have H2:=Lib.hid h2
 clear hf2 h2 H1
 refine (zbF w _ g s f2 H2.out hs2 O2.out).mono ?_
 rintro e w3 ⟨rfl,h3⟩
 have O3:=Lib.hid (Okf.dig O2.out)
 obtain ⟨f3,hf3⟩:∃ f3,f2.dig s=f3:=⟨_,rfl⟩
 obtain ⟨v3,hv3⟩:∃ v3,f2.digT s=v3:=⟨_,rfl⟩
 rw [hf3] at h3 O3
 rw [hv3]
 have E3:=Lib.hid hf3
 have V3:=Lib.hid hv3
 have H3:=Lib.hid h3
 clear hf3 hv3 h3 H2
 have k4:=H3.out.c 4 (.string f3.m) rfl
 have z4:=H3.out.fz 4
 go_wp2_with fail
 have h4:FSt w (w3.setCell ⟨g,4,none⟩ (.string v3)) g s { f3 with m:=v3 }:=H3.out.set 4 _ rfl
 clear k4 z4
 generalize w3.setCell ⟨g,4,none⟩ (.string v3)=w4 at *
 have O4:Hid (Okf s { f3 with m:=v3 }):=O3
 obtain ⟨f4,hf4⟩:∃ f:Fm,{ f3 with m:=v3 }=f:=⟨_,rfl⟩
 rw [hf4] at h4 O4
 have E4:=Lib.hid hf4
 have H4:=Lib.hid h4
 clear hf4 h4 H3
 refine (zbO w _ g s ⟨#[47]⟩ f4 H4.out hs2 O4.out).mono ?_
 rintro e w5 ⟨rfl,h5⟩
 have O5:=Lib.hid (Okf.sgn (set:=⟨#[47]⟩) O4.out)
 obtain ⟨f5,hf5⟩:∃ f5,f4.sgn s ⟨#[47]⟩=f5:=⟨_,rfl⟩
 obtain ⟨v5,hv5⟩:∃ v5,f4.sgV s ⟨#[47]⟩=v5:=⟨_,rfl⟩
 rw [hf5] at h5 O5
 rw [hv5]
 have E5:=Lib.hid hf5
 have V5:=Lib.hid hv5
 have H5:=Lib.hid h5
 clear hf5 hv5 h5 H4
 by_cases hS:v5=0
 ·skip
  have g5:(v5 == 0)=true:=beq_iff_eq.2 hS
  have n5:(v5 != 0)=false:=by rw [hS]; rfl
  have HS:=Lib.hid hS
  clear hS
  go_wp2_with fail
  clear g5 n5
  refine (zbO w _ g s ⟨#[46]⟩ f5 H5.out hs2 O5.out).mono ?_
  rintro e w6 ⟨rfl,h6⟩
  have O6:=Lib.hid (Okf.sgn (set:=⟨#[46]⟩) O5.out)
  obtain ⟨f6,hf6⟩:∃ f6,f5.sgn s ⟨#[46]⟩=f6:=⟨_,rfl⟩
  obtain ⟨v6,hv6⟩:∃ v6,f5.sgV s ⟨#[46]⟩=v6:=⟨_,rfl⟩
  rw [hf6] at h6 O6
  rw [hv6]
  have E6:=Lib.hid hf6
  have V6:=Lib.hid hv6
  have H6:=Lib.hid h6
  clear hf6 hv6 h6 H5
  by_cases hP:v6=0
  ·skip
   have g6:(v6 == 0)=true:=beq_iff_eq.2 hP
   have n6:(v6 != 0)=false:=by rw [hP]; rfl
   have HP:=Lib.hid hP
   clear hP
   go_wp2_with fail
   clear g6 n6
   refine (zbO w _ g s ⟨#[101,69]⟩ f6 H6.out hs2 O6.out).mono ?_
   rintro e w7 ⟨rfl,h7⟩
   have O7:=Lib.hid (Okf.sgn (set:=⟨#[101,69]⟩) O6.out)
   obtain ⟨f7,hf7⟩:∃ f7,f6.sgn s ⟨#[101,69]⟩=f7:=⟨_,rfl⟩
   obtain ⟨v7,hv7⟩:∃ v7,f6.sgV s ⟨#[101,69]⟩=v7:=⟨_,rfl⟩
   rw [hf7] at h7 O7
   rw [hv7]
   have E7:=Lib.hid hf7
   have V7:=Lib.hid hv7
   have H7:=Lib.hid h7
   clear hf7 hv7 h7 H6
   by_cases hE:v7=0
   ·skip
    have g7:(v7 == 0)=true:=beq_iff_eq.2 hE
    have n7:(v7 != 0)=false:=by rw [hE]; rfl
    have HE:=Lib.hid hE
    clear hE
    go_wp2
    clear g7 n7
    have k1:=H7.out.c 1 (.int .i64 f7.at_) rfl
    have k2:=H7.out.c 2 (.bool f7.bad) rfl
    obtain ⟨b,hb⟩:∃ b,f7.bad=b:=⟨_,rfl⟩
    rw [hb] at k2
    have HB:=Lib.hid hb
    clear hb
    cases b
    ·go_quiet (fail)
     go_wp2
     go_ret2
     refine FPost.mk' _ ?_ (Fm.end_ok HB.out) (H7.out.drewN _)
     obtain rfl:=E7.out
     obtain rfl:=V7.out
     obtain rfl:=E6.out
     obtain rfl:=V6.out
     obtain rfl:=E5.out
     obtain rfl:=V5.out
     obtain rfl:=E4.out
     obtain rfl:=E3.out
     obtain rfl:=V3.out
     obtain rfl:=E2.out
     obtain rfl:=E1.out
     obtain rfl:=V1.out
     obtain rfl:=E0.out
     exact (if_pos HS.out).trans ((congrArg (formE s) (if_pos HP.out)).trans (if_pos HE.out))
    ·go_quiet (fail)
     go_wp2
     go_ret2
     refine FPost.mk' _ ?_ (Fm.end_bad HB.out) (H7.out.drewN _)
     obtain rfl:=E7.out
     obtain rfl:=V7.out
     obtain rfl:=E6.out
     obtain rfl:=V6.out
     obtain rfl:=E5.out
     obtain rfl:=V5.out
     obtain rfl:=E4.out
     obtain rfl:=E3.out
     obtain rfl:=V3.out
     obtain rfl:=E2.out
     obtain rfl:=E1.out
     obtain rfl:=V1.out
     obtain rfl:=E0.out
     exact (if_pos HS.out).trans ((congrArg (formE s) (if_pos HP.out)).trans (if_pos HE.out))
   ·skip
    have g7:(v7 == 0)=false:=beq_eq_false_iff_ne.2 hE
    have n7:(v7 != 0)=true:=by simpa using hE
    have HE:=Lib.hid hE
    clear hE
    go_wp2_with fail
    clear g7 n7
    refine (zbO w _ g s ⟨#[43,45]⟩ f7 H7.out hs2 O7.out).mono ?_
    rintro e w8 ⟨rfl,h8⟩
    have O8:=Lib.hid (Okf.sgn (set:=⟨#[43,45]⟩) O7.out)
    obtain ⟨f8,hf8⟩:∃ f8,f7.sgn s ⟨#[43,45]⟩=f8:=⟨_,rfl⟩
    obtain ⟨v8,hv8⟩:∃ v8,f7.sgV s ⟨#[43,45]⟩=v8:=⟨_,rfl⟩
    rw [hf8] at h8 O8
    rw [hv8]
    have E8:=Lib.hid hf8
    have V8:=Lib.hid hv8
    have H8:=Lib.hid h8
    clear hf8 hv8 h8 H7
    have k7:=H8.out.c 7 (.bool f8.minus) rfl
    have z7:=H8.out.fz 7
    have h9:FSt w (w8.setCell ⟨g,7,none⟩ (.bool (v8 == 45))) g s { f8 with minus:=v8 == 45 }:=H8.out.set 7 _ rfl
    have O9:Hid (Okf s { f8 with minus:=v8 == 45 }):=O8
    obtain ⟨f9,hf9⟩:∃ f:Fm,{ f8 with minus:=v8 == 45 }=f:=⟨_,rfl⟩
    rw [hf9] at h9 O9
    have E9:=Lib.hid hf9
    have k2:=h9.c 2 (.bool f9.bad) rfl
    have H9:=Lib.hid h9
    clear hf9 h9 H8
    obtain ⟨b,hb⟩:∃ b,f9.bad=b:=⟨_,rfl⟩
    rw [hb] at k2
    have HB:=Lib.hid hb
    clear hb
    cases b
    ·go_wp2_with fail
     clear k2 k7 z7
     generalize w8.setCell ⟨g,7,none⟩ (.bool (v8 == 45))=w9 at *
     have HBF:=HB
     refine (zbF w _ g s f9 H9.out hs2 O9.out).mono ?_
     rintro e w10 ⟨rfl,h10⟩
     have O10:=Lib.hid (Okf.dig O9.out)
     obtain ⟨f10,hf10⟩:∃ f10,f9.dig s=f10:=⟨_,rfl⟩
     obtain ⟨v10,hv10⟩:∃ v10,f9.digT s=v10:=⟨_,rfl⟩
     rw [hf10] at h10 O10
     rw [hv10]
     have E10:=Lib.hid hf10
     have V10:=Lib.hid hv10
     have H10:=Lib.hid h10
     clear hf10 hv10 h10 H9
     have k6:=H10.out.c 6 (.string f10.exp) rfl
     have z6:=H10.out.fz 6
     go_wp2
     have h11:FSt w (w10.setCell ⟨g,6,none⟩ (.string v10)) g s { f10 with exp:=v10 }:=H10.out.set 6 _ rfl
     clear k6 z6
     generalize w10.setCell ⟨g,6,none⟩ (.string v10)=w11 at *
     obtain ⟨f11,hf11⟩:∃ f:Fm,{ f10 with exp:=v10 }=f:=⟨_,rfl⟩
     rw [hf11] at h11
     have E11:=Lib.hid hf11
     have H11:=Lib.hid h11
     clear hf11 h11 H10 HB
     have k1:=H11.out.c 1 (.int .i64 f11.at_) rfl
     have k2:=H11.out.c 2 (.bool f11.bad) rfl
     obtain ⟨b,hb⟩:∃ b,f11.bad=b:=⟨_,rfl⟩
     rw [hb] at k2
     have HB:=Lib.hid hb
     clear hb
     cases b
     ·go_quiet (fail)
      go_wp2
      go_ret2
      refine FPost.mk' _ ?_ (Fm.end_ok HB.out) (H11.out.drewN _)
      obtain rfl:=E11.out
      obtain rfl:=E10.out
      obtain rfl:=V10.out
      obtain rfl:=E9.out
      obtain rfl:=E8.out
      obtain rfl:=V8.out
      obtain rfl:=E7.out
      obtain rfl:=V7.out
      obtain rfl:=E6.out
      obtain rfl:=V6.out
      obtain rfl:=E5.out
      obtain rfl:=V5.out
      obtain rfl:=E4.out
      obtain rfl:=E3.out
      obtain rfl:=V3.out
      obtain rfl:=E2.out
      obtain rfl:=E1.out
      obtain rfl:=V1.out
      obtain rfl:=E0.out
      exact (if_pos HS.out).trans ((congrArg (formE s) (if_pos HP.out)).trans ((if_neg HE.out).trans (if_neg (fun hb=>by have:=HBF.out; exact absurd (hb.symm.trans this) (by decide)))))
     ·go_quiet (fail)
      go_wp2
      go_ret2
      refine FPost.mk' _ ?_ (Fm.end_bad HB.out) (H11.out.drewN _)
      obtain rfl:=E11.out
      obtain rfl:=E10.out
      obtain rfl:=V10.out
      obtain rfl:=E9.out
      obtain rfl:=E8.out
      obtain rfl:=V8.out
      obtain rfl:=E7.out
      obtain rfl:=V7.out
      obtain rfl:=E6.out
      obtain rfl:=V6.out
      obtain rfl:=E5.out
      obtain rfl:=V5.out
      obtain rfl:=E4.out
      obtain rfl:=E3.out
      obtain rfl:=V3.out
      obtain rfl:=E2.out
      obtain rfl:=E1.out
      obtain rfl:=V1.out
      obtain rfl:=E0.out
      exact (if_pos HS.out).trans ((congrArg (formE s) (if_pos HP.out)).trans ((if_neg HE.out).trans (if_neg (fun hb=>by have:=HBF.out; exact absurd (hb.symm.trans this) (by decide)))))
    ·go_wp2
     clear k2 k7 z7
     generalize w8.setCell ⟨g,7,none⟩ (.bool (v8 == 45))=w9 at *
     have HBF:=HB
     clear HB
     have k1:=H9.out.c 1 (.int .i64 f9.at_) rfl
     have k2:=H9.out.c 2 (.bool f9.bad) rfl
     obtain ⟨b,hb⟩:∃ b,f9.bad=b:=⟨_,rfl⟩
     rw [hb] at k2
     have HB:=Lib.hid hb
     clear hb
     cases b
     ·go_quiet (fail)
      go_wp2
      go_ret2
      refine FPost.mk' _ ?_ (Fm.end_ok HB.out) (H9.out.drewN _)
      obtain rfl:=E9.out
      obtain rfl:=E8.out
      obtain rfl:=V8.out
      obtain rfl:=E7.out
      obtain rfl:=V7.out
      obtain rfl:=E6.out
      obtain rfl:=V6.out
      obtain rfl:=E5.out
      obtain rfl:=V5.out
      obtain rfl:=E4.out
      obtain rfl:=E3.out
      obtain rfl:=V3.out
      obtain rfl:=E2.out
      obtain rfl:=E1.out
      obtain rfl:=V1.out
      obtain rfl:=E0.out
      exact (if_pos HS.out).trans ((congrArg (formE s) (if_pos HP.out)).trans ((if_neg HE.out).trans (if_pos HBF.out)))
     ·go_quiet (fail)
      go_wp2
      go_ret2
      refine FPost.mk' _ ?_ (Fm.end_bad HB.out) (H9.out.drewN _)
      obtain rfl:=E9.out
      obtain rfl:=E8.out
      obtain rfl:=V8.out
      obtain rfl:=E7.out
      obtain rfl:=V7.out
      obtain rfl:=E6.out
      obtain rfl:=V6.out
      obtain rfl:=E5.out
      obtain rfl:=V5.out
      obtain rfl:=E4.out
      obtain rfl:=E3.out
      obtain rfl:=V3.out
      obtain rfl:=E2.out
      obtain rfl:=E1.out
      obtain rfl:=V1.out
      obtain rfl:=E0.out
      exact (if_pos HS.out).trans ((congrArg (formE s) (if_pos HP.out)).trans ((if_neg HE.out).trans (if_pos HBF.out)))
  ·skip
   have g6:(v6 == 0)=false:=beq_eq_false_iff_ne.2 hP
   have n6:(v6 != 0)=true:=by simpa using hP
   have HP:=Lib.hid hP
   clear hP
   go_wp2_with fail
   clear g6 n6
   refine (zbF w _ g s f6 H6.out hs2 O6.out).mono ?_
   rintro e w7 ⟨rfl,h7⟩
   have O7:=Lib.hid (Okf.dig O6.out)
   obtain ⟨f7,hf7⟩:∃ f7,f6.dig s=f7:=⟨_,rfl⟩
   obtain ⟨v7,hv7⟩:∃ v7,f6.digT s=v7:=⟨_,rfl⟩
   rw [hf7] at h7 O7
   rw [hv7]
   have E7:=Lib.hid hf7
   have V7:=Lib.hid hv7
   have H7:=Lib.hid h7
   clear hf7 hv7 h7 H6
   have k4:=H7.out.c 4 (.string f7.m) rfl
   have k5:=H7.out.c 5 (.int .i64 f7.behind) rfl
   have z4:=H7.out.fz 4
   have z5:=H7.out.fz 5
   have hv3:v3.size≤s.size:=by rw [←V3.out]; exact zb3 _ _
   have hv7:v7.size≤s.size:=by rw [←V7.out]; exact zb3 _ _
   have hm:f7.m=v3:=by
    obtain rfl:=E7.out
    obtain rfl:=E6.out
    obtain rfl:=E5.out
    obtain rfl:=E4.out
    show (Fm.sgn s ⟨#[46]⟩ (Fm.sgn s ⟨#[47]⟩ _)).m=_
    rw [Fm.sgn_m,Fm.sgn_m]
   rw [hm] at k4
   have HM:=Lib.hid hm
   clear hm
   have hsz:v3.size+v7.size≤9223372036854775807:=by omega
   go_wp2_with fail
   clear k4 k5 z4 z5 hsz
   have h8:FSt w ((w7.setCell ⟨g,5,none⟩ (.int .i64 (v7.size:Int))).setCell ⟨g,4,none⟩ (.string (v3++v7))) g s { f7 with behind:=v7.size,m:=f7.m++v7 }:=(FSt.set (f':={ f7 with behind:=v7.size }) H7.out 5 _ rfl).set 4 _ (by rw [HM.out]; rfl)
   generalize (w7.setCell ⟨g,5,none⟩ (.int .i64 (v7.size:Int))).setCell ⟨g,4,none⟩ (.string (v3++v7))=w8 at *
   have O8:Hid (Okf s { f7 with behind:=v7.size,m:=f7.m++v7 }):=O7
   obtain ⟨f8,hf8⟩:∃ f:Fm,{ f7 with behind:=v7.size,m:=f7.m++v7 }=f:=⟨_,rfl⟩
   rw [hf8] at h8 O8
   have E8:=Lib.hid hf8
   have H8:=Lib.hid h8
   clear hf8 h8 H7 HM hv3 hv7
   refine (zbO w _ g s ⟨#[101,69]⟩ f8 H8.out hs2 O8.out).mono ?_
   rintro e w9 ⟨rfl,h9⟩
   have O9:=Lib.hid (Okf.sgn (set:=⟨#[101,69]⟩) O8.out)
   obtain ⟨f9,hf9⟩:∃ f9,f8.sgn s ⟨#[101,69]⟩=f9:=⟨_,rfl⟩
   obtain ⟨v9,hv9⟩:∃ v9,f8.sgV s ⟨#[101,69]⟩=v9:=⟨_,rfl⟩
   rw [hf9] at h9 O9
   rw [hv9]
   have E9:=Lib.hid hf9
   have V9:=Lib.hid hv9
   have H9:=Lib.hid h9
   clear hf9 hv9 h9 H8
   by_cases hE:v9=0
   ·skip
    have g9:(v9 == 0)=true:=beq_iff_eq.2 hE
    have n9:(v9 != 0)=false:=by rw [hE]; rfl
    have HE:=Lib.hid hE
    clear hE
    go_wp2
    clear g9 n9
    have k1:=H9.out.c 1 (.int .i64 f9.at_) rfl
    have k2:=H9.out.c 2 (.bool f9.bad) rfl
    obtain ⟨b,hb⟩:∃ b,f9.bad=b:=⟨_,rfl⟩
    rw [hb] at k2
    have HB:=Lib.hid hb
    clear hb
    cases b
    ·go_quiet (fail)
     go_wp2
     go_ret2
     refine FPost.mk' _ ?_ (Fm.end_ok HB.out) (H9.out.drewN _)
     obtain rfl:=E9.out
     obtain rfl:=V9.out
     obtain rfl:=E8.out
     obtain rfl:=E7.out
     obtain rfl:=V7.out
     obtain rfl:=E6.out
     obtain rfl:=V6.out
     obtain rfl:=E5.out
     obtain rfl:=V5.out
     obtain rfl:=E4.out
     obtain rfl:=E3.out
     obtain rfl:=V3.out
     obtain rfl:=E2.out
     obtain rfl:=E1.out
     obtain rfl:=V1.out
     obtain rfl:=E0.out
     exact (if_pos HS.out).trans ((congrArg (formE s) (if_neg HP.out)).trans (if_pos HE.out))
    ·go_quiet (fail)
     go_wp2
     go_ret2
     refine FPost.mk' _ ?_ (Fm.end_bad HB.out) (H9.out.drewN _)
     obtain rfl:=E9.out
     obtain rfl:=V9.out
     obtain rfl:=E8.out
     obtain rfl:=E7.out
     obtain rfl:=V7.out
     obtain rfl:=E6.out
     obtain rfl:=V6.out
     obtain rfl:=E5.out
     obtain rfl:=V5.out
     obtain rfl:=E4.out
     obtain rfl:=E3.out
     obtain rfl:=V3.out
     obtain rfl:=E2.out
     obtain rfl:=E1.out
     obtain rfl:=V1.out
     obtain rfl:=E0.out
     exact (if_pos HS.out).trans ((congrArg (formE s) (if_neg HP.out)).trans (if_pos HE.out))
   ·skip
    have g9:(v9 == 0)=false:=beq_eq_false_iff_ne.2 hE
    have n9:(v9 != 0)=true:=by simpa using hE
    have HE:=Lib.hid hE
    clear hE
    go_wp2_with fail
    clear g9 n9
    refine (zbO w _ g s ⟨#[43,45]⟩ f9 H9.out hs2 O9.out).mono ?_
    rintro e w10 ⟨rfl,h10⟩
    have O10:=Lib.hid (Okf.sgn (set:=⟨#[43,45]⟩) O9.out)
    obtain ⟨f10,hf10⟩:∃ f10,f9.sgn s ⟨#[43,45]⟩=f10:=⟨_,rfl⟩
    obtain ⟨v10,hv10⟩:∃ v10,f9.sgV s ⟨#[43,45]⟩=v10:=⟨_,rfl⟩
    rw [hf10] at h10 O10
    rw [hv10]
    have E10:=Lib.hid hf10
    have V10:=Lib.hid hv10
    have H10:=Lib.hid h10
    clear hf10 hv10 h10 H9
    have k7:=H10.out.c 7 (.bool f10.minus) rfl
    have z7:=H10.out.fz 7
    have h11:FSt w (w10.setCell ⟨g,7,none⟩ (.bool (v10 == 45))) g s { f10 with minus:=v10 == 45 }:=H10.out.set 7 _ rfl
    have O11:Hid (Okf s { f10 with minus:=v10 == 45 }):=O10
    obtain ⟨f11,hf11⟩:∃ f:Fm,{ f10 with minus:=v10 == 45 }=f:=⟨_,rfl⟩
    rw [hf11] at h11 O11
    have E11:=Lib.hid hf11
    have k2:=h11.c 2 (.bool f11.bad) rfl
    have H11:=Lib.hid h11
    clear hf11 h11 H10
    obtain ⟨b,hb⟩:∃ b,f11.bad=b:=⟨_,rfl⟩
    rw [hb] at k2
    have HB:=Lib.hid hb
    clear hb
    cases b
    ·go_wp2_with fail
     clear k2 k7 z7
     generalize w10.setCell ⟨g,7,none⟩ (.bool (v10 == 45))=w11 at *
     have HBF:=HB
     refine (zbF w _ g s f11 H11.out hs2 O11.out).mono ?_
     rintro e w12 ⟨rfl,h12⟩
     have O12:=Lib.hid (Okf.dig O11.out)
     obtain ⟨f12,hf12⟩:∃ f12,f11.dig s=f12:=⟨_,rfl⟩
     obtain ⟨v12,hv12⟩:∃ v12,f11.digT s=v12:=⟨_,rfl⟩
     rw [hf12] at h12 O12
     rw [hv12]
     have E12:=Lib.hid hf12
     have V12:=Lib.hid hv12
     have H12:=Lib.hid h12
     clear hf12 hv12 h12 H11
     have k6:=H12.out.c 6 (.string f12.exp) rfl
     have z6:=H12.out.fz 6
     go_wp2
     have h13:FSt w (w12.setCell ⟨g,6,none⟩ (.string v12)) g s { f12 with exp:=v12 }:=H12.out.set 6 _ rfl
     clear k6 z6
     generalize w12.setCell ⟨g,6,none⟩ (.string v12)=w13 at *
     obtain ⟨f13,hf13⟩:∃ f:Fm,{ f12 with exp:=v12 }=f:=⟨_,rfl⟩
     rw [hf13] at h13
     have E13:=Lib.hid hf13
     have H13:=Lib.hid h13
     clear hf13 h13 H12 HB
     have k1:=H13.out.c 1 (.int .i64 f13.at_) rfl
     have k2:=H13.out.c 2 (.bool f13.bad) rfl
     obtain ⟨b,hb⟩:∃ b,f13.bad=b:=⟨_,rfl⟩
     rw [hb] at k2
     have HB:=Lib.hid hb
     clear hb
     cases b
     ·go_quiet (fail)
      go_wp2
      go_ret2
      refine FPost.mk' _ ?_ (Fm.end_ok HB.out) (H13.out.drewN _)
      obtain rfl:=E13.out
      obtain rfl:=E12.out
      obtain rfl:=V12.out
      obtain rfl:=E11.out
      obtain rfl:=E10.out
      obtain rfl:=V10.out
      obtain rfl:=E9.out
      obtain rfl:=V9.out
      obtain rfl:=E8.out
      obtain rfl:=E7.out
      obtain rfl:=V7.out
      obtain rfl:=E6.out
      obtain rfl:=V6.out
      obtain rfl:=E5.out
      obtain rfl:=V5.out
      obtain rfl:=E4.out
      obtain rfl:=E3.out
      obtain rfl:=V3.out
      obtain rfl:=E2.out
      obtain rfl:=E1.out
      obtain rfl:=V1.out
      obtain rfl:=E0.out
      exact (if_pos HS.out).trans ((congrArg (formE s) (if_neg HP.out)).trans ((if_neg HE.out).trans (if_neg (fun hb=>by have:=HBF.out; exact absurd (hb.symm.trans this) (by decide)))))
     ·go_quiet (fail)
      go_wp2
      go_ret2
      refine FPost.mk' _ ?_ (Fm.end_bad HB.out) (H13.out.drewN _)
      obtain rfl:=E13.out
      obtain rfl:=E12.out
      obtain rfl:=V12.out
      obtain rfl:=E11.out
      obtain rfl:=E10.out
      obtain rfl:=V10.out
      obtain rfl:=E9.out
      obtain rfl:=V9.out
      obtain rfl:=E8.out
      obtain rfl:=E7.out
      obtain rfl:=V7.out
      obtain rfl:=E6.out
      obtain rfl:=V6.out
      obtain rfl:=E5.out
      obtain rfl:=V5.out
      obtain rfl:=E4.out
      obtain rfl:=E3.out
      obtain rfl:=V3.out
      obtain rfl:=E2.out
      obtain rfl:=E1.out
      obtain rfl:=V1.out
      obtain rfl:=E0.out
      exact (if_pos HS.out).trans ((congrArg (formE s) (if_neg HP.out)).trans ((if_neg HE.out).trans (if_neg (fun hb=>by have:=HBF.out; exact absurd (hb.symm.trans this) (by decide)))))
    ·go_wp2
     clear k2 k7 z7
     generalize w10.setCell ⟨g,7,none⟩ (.bool (v10 == 45))=w11 at *
     have HBF:=HB
     clear HB
     have k1:=H11.out.c 1 (.int .i64 f11.at_) rfl
     have k2:=H11.out.c 2 (.bool f11.bad) rfl
     obtain ⟨b,hb⟩:∃ b,f11.bad=b:=⟨_,rfl⟩
     rw [hb] at k2
     have HB:=Lib.hid hb
     clear hb
     cases b
     ·go_quiet (fail)
      go_wp2
      go_ret2
      refine FPost.mk' _ ?_ (Fm.end_ok HB.out) (H11.out.drewN _)
      obtain rfl:=E11.out
      obtain rfl:=E10.out
      obtain rfl:=V10.out
      obtain rfl:=E9.out
      obtain rfl:=V9.out
      obtain rfl:=E8.out
      obtain rfl:=E7.out
      obtain rfl:=V7.out
      obtain rfl:=E6.out
      obtain rfl:=V6.out
      obtain rfl:=E5.out
      obtain rfl:=V5.out
      obtain rfl:=E4.out
      obtain rfl:=E3.out
      obtain rfl:=V3.out
      obtain rfl:=E2.out
      obtain rfl:=E1.out
      obtain rfl:=V1.out
      obtain rfl:=E0.out
      exact (if_pos HS.out).trans ((congrArg (formE s) (if_neg HP.out)).trans ((if_neg HE.out).trans (if_pos HBF.out)))
     ·go_quiet (fail)
      go_wp2
      go_ret2
      refine FPost.mk' _ ?_ (Fm.end_bad HB.out) (H11.out.drewN _)
      obtain rfl:=E11.out
      obtain rfl:=E10.out
      obtain rfl:=V10.out
      obtain rfl:=E9.out
      obtain rfl:=V9.out
      obtain rfl:=E8.out
      obtain rfl:=E7.out
      obtain rfl:=V7.out
      obtain rfl:=E6.out
      obtain rfl:=V6.out
      obtain rfl:=E5.out
      obtain rfl:=V5.out
      obtain rfl:=E4.out
      obtain rfl:=E3.out
      obtain rfl:=V3.out
      obtain rfl:=E2.out
      obtain rfl:=E1.out
      obtain rfl:=V1.out
      obtain rfl:=E0.out
      exact (if_pos HS.out).trans ((congrArg (formE s) (if_neg HP.out)).trans ((if_neg HE.out).trans (if_pos HBF.out)))
 ·skip
  have g5:(v5 == 0)=false:=beq_eq_false_iff_ne.2 hS
  have n5:(v5 != 0)=true:=by simpa using hS
  have HS:=Lib.hid hS
  clear hS
  have k1:=H5.out.c 1 (.int .i64 f5.at_) rfl
  have k9:=H5.out.c 9 (.bool f5.fraction) rfl
  have k10:=H5.out.c 10 (.int .i64 f5.slash) rfl
  have z9:=H5.out.fz 9
  have z10:=H5.out.fz 10
  go_wp2_with fail
  clear g5 n5
  clear k1 k9 k10 z9 z10
  have h6:FSt w ((w5.setCell ⟨g,9,none⟩ (.bool true)).setCell ⟨g,10,none⟩ (.int .i64 f5.at_)) g s { f5 with fraction:=true,slash:=f5.at_ }:=(FSt.set (f':={ f5 with fraction:=true }) H5.out 9 _ rfl).set 10 _ rfl
  generalize (w5.setCell ⟨g,9,none⟩ (.bool true)).setCell ⟨g,10,none⟩ (.int .i64 f5.at_)=w6 at *
  have O6:Hid (Okf s { f5 with fraction:=true,slash:=f5.at_ }):=O5
  obtain ⟨f6,hf6⟩:∃ f:Fm,{ f5 with fraction:=true,slash:=f5.at_ }=f:=⟨_,rfl⟩
  rw [hf6] at h6 O6
  have E6:=Lib.hid hf6
  have H6:=Lib.hid h6
  clear hf6 h6 H5
  refine (zbF w _ g s f6 H6.out hs2 O6.out).mono ?_
  rintro e w7 ⟨rfl,h7⟩
  have O7:=Lib.hid (Okf.dig O6.out)
  obtain ⟨f7,hf7⟩:∃ f7,f6.dig s=f7:=⟨_,rfl⟩
  obtain ⟨v7,hv7⟩:∃ v7,f6.digT s=v7:=⟨_,rfl⟩
  rw [hf7] at h7 O7
  rw [hv7]
  have E7:=Lib.hid hf7
  have V7:=Lib.hid hv7
  have H7:=Lib.hid h7
  clear hf7 hv7 h7 H6
  have k8:=H7.out.c 8 (.string f7.den) rfl
  have z8:=H7.out.fz 8
  go_wp2
  have h8:FSt w (w7.setCell ⟨g,8,none⟩ (.string v7)) g s { f7 with den:=v7 }:=H7.out.set 8 _ rfl
  clear k8 z8
  generalize w7.setCell ⟨g,8,none⟩ (.string v7)=w8 at *
  obtain ⟨f8,hf8⟩:∃ f:Fm,{ f7 with den:=v7 }=f:=⟨_,rfl⟩
  rw [hf8] at h8
  have E8:=Lib.hid hf8
  have H8:=Lib.hid h8
  clear hf8 h8 H7
  have k1:=H8.out.c 1 (.int .i64 f8.at_) rfl
  have k2:=H8.out.c 2 (.bool f8.bad) rfl
  obtain ⟨b,hb⟩:∃ b,f8.bad=b:=⟨_,rfl⟩
  rw [hb] at k2
  have HB:=Lib.hid hb
  clear hb
  cases b
  ·go_quiet (fail)
   go_wp2
   go_ret2
   refine FPost.mk' _ ?_ (Fm.end_ok HB.out) (H8.out.drewN _)
   obtain rfl:=E8.out
   obtain rfl:=E7.out
   obtain rfl:=V7.out
   obtain rfl:=E6.out
   obtain rfl:=E5.out
   obtain rfl:=V5.out
   obtain rfl:=E4.out
   obtain rfl:=E3.out
   obtain rfl:=V3.out
   obtain rfl:=E2.out
   obtain rfl:=E1.out
   obtain rfl:=V1.out
   obtain rfl:=E0.out
   exact if_neg HS.out
  ·go_quiet (fail)
   go_wp2
   go_ret2
   refine FPost.mk' _ ?_ (Fm.end_bad HB.out) (H8.out.drewN _)
   obtain rfl:=E8.out
   obtain rfl:=E7.out
   obtain rfl:=V7.out
   obtain rfl:=E6.out
   obtain rfl:=E5.out
   obtain rfl:=V5.out
   obtain rfl:=E4.out
   obtain rfl:=E3.out
   obtain rfl:=V3.out
   obtain rfl:=E2.out
   obtain rfl:=E1.out
   obtain rfl:=V1.out
   obtain rfl:=E0.out
   exact if_neg HS.out
theorem zch (l:List UInt8):dval (l.dropWhile (· == 48))=dval l:=by
 induction l with
 | nil=>rfl
 | cons c t ih =>
  rw [List.dropWhile_cons]
  by_cases h:c=48
  ·subst h
   rw [if_pos (by decide),ih,zbE]
   have:(48:UInt8).toNat=48:=rfl
   rw [this]; omega
  ·rw [if_neg (by simpa using h)]
theorem dig_dropWhile {l:List UInt8} (h:Dig l):Dig (l.dropWhile (· == 48)):=fun c hc=>h c ((List.dropWhile_suffix _).subset hc)
theorem bare_text {l:List UInt8} (h:Dig l) (hn:l.dropWhile (· == 48) ≠ []):(⟨(l.dropWhile (· == 48)).toArray⟩:ByteArray)=T (dval l):=by
 have hc:Can (l.dropWhile (· == 48)):=by
  refine ⟨List.length_pos_iff.2 hn,dig_dropWhile h,fun e => ?_⟩
  exfalso
  have hh:=List.head?_dropWhile_not (fun c:UInt8=>c == 48) l
  rw [e] at hh
  simp at hh
 have:=zcF _ _ rfl hc
 rw [zch] at this
 unfold T
 rw [this]
theorem zaJ (s:ByteArray) (w:World) (hd:Dig s.data.toList) :
  Calls Tryz.prog 113 #[.string s] w fun e w'=>e = .returned (.string (T (dval s.data.toList)))∧w=w':=by
 have HT:=fun W=>Tryz.strings_TrimLeft_one s 48 (by decide) W
 unfold Lib.trimLeftB at HT
 by_cases hn:s.data.toList.dropWhile (· == 48) = []
 ·have hv:dval s.data.toList=0:=by rw [←zch,hn]; rfl
  have HV:=Lib.hid hv
  rw [hn] at HT
  have e0:(⟨([]:List UInt8).toArray⟩:ByteArray)=⟨#[]⟩:=rfl
  rw [e0] at HT
  clear hn hv hd e0
  go_enter Tryz.func113,Tryz.ntmps113
  go_wp2_with fail
  refine (HT _).mono ?_
  rintro e w' ⟨rfl,rfl⟩
  go_wp2
  go_ret
  exact ⟨by rw [HV.out]; unfold T; rw [zbW (by decide)]; rfl,rfl⟩
 ·rw [bare_text hd hn] at HT
  have hne:(T (dval s.data.toList)).toList.isEmpty=false:=by
   rw [ZQ.ba_toList]
   have:=zb6 (dval s.data.toList)
   rw [←zah] at this
   cases h:(T (dval s.data.toList)).data.toList
   ·rw [h] at this; simp at this
   ·rfl
  have hne2:((T (dval s.data.toList)).toList == ([]:List UInt8))=false:=by
   rw [beq_eq_false_iff_ne]
   intro e
   rw [e] at hne
   simp at hne
  clear hn hd
  generalize T (dval s.data.toList)=t at *
  go_enter Tryz.func113,Tryz.ntmps113
  go_wp2_with fail
  refine (HT _).mono ?_
  rintro e w' ⟨rfl,rfl⟩
  go_wp2
  go_ret
  exact ⟨rfl,rfl⟩
theorem zbb (n:Nat) (w:World) (h:(T n).size≤1048576) :
  Calls Tryz.prog 114 #[.string (T n)] w fun e w'=>∃ D,e = .returned (.pointer (some ⟨D,0,none⟩))∧w.heap.size≤D∧IntAt w' D 0 n∧Below w.heap.size w w':=by
 have hu105:=Tryz.underlying70
 have hnew:=IntAt.new w 70 (by decide)
 have hba:=zaa (Below.refl w.heap.size w) (.cells #[.bool false,.slice none 0 0] 70)
 have hp:=zb6 n
 go_enter Tryz.func114,Tryz.ntmps114
 go_wp2_with fail
 refine (zcm w.heap.size 0 (T n) _ _ hnew.slot (dig_T n) hp h).mono ?_
 rintro e w2 ⟨rfl,hx2,hu2⟩
 rw [zc4] at hx2
 have hb2:=hu2.new hba (Nat.le_refl _)
 go_wp2
 go_ret
 exact ⟨_,rfl,Nat.le_refl _,hx2,hb2⟩
theorem dval_take_le (l:List UInt8) (i:Nat):dval (l.take i)≤dval l:=by
 have h:=za9 (l.take i) (l.drop i)
 rw [List.take_append_drop] at h
 rw [h]
 have:dval (l.take i)*1≤dval (l.take i)*10^(l.drop i).length:=Nat.mul_le_mul_left _ (Nat.pow_pos (by decide))
 omega
def natI (n:Nat):Int×Int:=if n<18446744073709551616 then ((n:Int),0) else (0,7)
theorem zco (n:Nat) (w:World) (h:n<10^600) :
  Calls Tryz.prog 175 #[.string (T n)] w fun e w'=>e = .returned (.tuple #[.int .u64 (natI n).1,.int .i64 (natI n).2])∧Below w.heap.size w w':=by
 have HR:=fun W=>zbr (T n) W
 rw [right_iff.2 ⟨n,rfl,h⟩] at HR
 have hs:(T n).size≤600:=(zaB (by decide)).2 h
 have HD:=Lib.hid (dig_T n)
 have HN:=Lib.hid (zc4 n)
 clear h
 generalize T n=s at *
 have kb:=fun W=>print_bytes (P:=Tryz.prog) 9 133 5 Tryz.underlying9 Tryz.underlying133 Tryz.underlying5 s W
 go_enter Tryz.func175,Tryz.ntmps175
 go_wp2_with fail
 refine (HR _).mono ?_
 rintro e w1 ⟨rfl,hd⟩
 have hb1:=zce hd
 have hrd:=bytes_reads w1 5 s (by omega)
 have hb2:=bthen hb1 (bytes_below (Below.refl w1.heap.size w1) (Nat.le_refl _) 5 s)
 have HRD:=Lib.hid hrd
 clear hd hrd hb1
 have hcell:∀ j (hj:j<s.data.toList.length),(Lib.bytesWorld w1 5 s).cell? ⟨w1.heap.size,j,none⟩=some (.int .u8 ((s.data.toList[j].toNat:Nat):Int)):=fun j hj=>by
  obtain ⟨ad,he,hc⟩:=HRD.out.2.2 (by rw [zah] at hj; omega)
  injection he with he
  subst he
  have:=hc j (by rw [zah] at hj; omega)
  rw [zbe] at this
  rw [this]
  simp [bytesOf,List.getD_eq_getElem?_getD,List.getElem?_eq_getElem hj]
 have HC:=Lib.hid hcell
 clear hcell HRD
 go_wp2
 generalize Lib.bytesWorld w1 5 s=wb at *
 generalize w1.heap.size=bb at *
 go_loop [4,14] (fun va vi=>∃ i:Nat,i≤s.size∧vi = .int .i64 i∧va = .int .u64 ((dval (s.data.toList.take i):Nat):Int)∧dval (s.data.toList.take i)<18446744073709551616) (fun _ vi=>s.size-(intOf vi).toNat)
 case atStart=>exact ⟨0,Nat.zero_le _,rfl,rfl,show 0<_ by decide⟩
 case round =>
  obtain ⟨i,hi,rfl,rfl,hacc⟩:=hrel
  by_cases hlt:i<s.size
  ·have hil:i<s.data.toList.length:=by rw [zah]; exact hlt
   have hc:=HC.out i hil
   have hdd:=HD.out _ (List.getElem_mem hil)
   have hds:=zbX s.data.toList i hil
   have HDS:=Lib.hid hds
   clear hds
   generalize dval (s.data.toList.take i)=A at *
   generalize hcc:s.data.toList[i].toNat=c at *
   obtain ⟨d,rfl⟩:∃ d,c=d+48:=⟨c-48,by omega⟩
   have hd9:d≤9:=by omega
   clear hcc
   have e1:((d+48:Nat):Int)=(d:Int)+48:=by omega
   rw [e1] at hc
   clear e1
   have HX:=Lib.hid (show dval (s.data.toList.take (i+1))=A*10+d by rw [HDS.out]; omega)
   by_cases hov:(18446744073709551615-(d:Int))/10<(A:Int)
   ·have HF:=Lib.hid (show natI n=(0,7) by
     have h1:=dval_take_le s.data.toList (i+1)
     rw [HX.out,HN.out] at h1
     unfold natI
     rw [if_neg (by omega)])
    go_wp2
    go_ret2
    exact ⟨by rw [HF.out]; rfl,hb2⟩
   ·have hA2:A*10+d<18446744073709551616:=by omega
    go_wp2
    go_round
    case rel=>exact ⟨i+1,by omega,by go_num,by rw [HX.out]; go_num,by rw [HX.out]; exact hA2⟩
    case measure=>simp [intOf]; omega
  ·obtain rfl:i=s.size:=by omega
   have hall:s.data.toList.take s.size=s.data.toList:=by rw [←zah,List.take_length]
   have HF:=Lib.hid (show natI n=(((dval (s.data.toList.take s.size):Nat):Int),0) by
    rw [hall,HN.out]
    rw [hall,HN.out] at hacc
    unfold natI
    rw [if_pos hacc])
   clear hall
   generalize dval (s.data.toList.take s.size)=A at *
   go_wp2
   go_ret2
   exact ⟨by rw [HF.out]; rfl,hb2⟩
theorem natInt_no (s:ByteArray) (w:World) (h:rightB s=false) :
  Calls Tryz.prog 175 #[.string s] w fun e w'=>e = .returned (.tuple #[.int .u64 0,.int .i64 3])∧Below w.heap.size w w':=by
 have HR:=fun W=>zbr s W
 rw [h] at HR
 clear h
 go_enter Tryz.func175,Tryz.ntmps175
 go_wp2_with fail
 refine (HR _).mono ?_
 rintro e w1 ⟨rfl,hd⟩
 have hb1:=zce hd
 clear hd
 go_wp2
 go_ret2
 exact ⟨rfl,hb1⟩
def expE (f:Fm):Option Int:=if f.exp.size=0 then some 0 else if 4096<dval f.exp.data.toList then none else some (if f.minus then -(dval f.exp.data.toList:Int) else (dval f.exp.data.toList:Int))
def scaleF (M:Nat) (k:Int):Option Rat:=if 600<(T M).size∨(k<0∧600<1-k)∨(0≤k∧M≠0∧600<((T M).size:Int)+k) then none else some (((M:Int):Rat)*tenR k)
def decF (f:Fm):Option Rat:=(expE f).bind fun e=>scaleF (dval f.m.data.toList) (e-f.behind)
def DPost (w:World) (r:Option Rat) (e:Ending) (w':World):Prop:=match r with
 | none=>e = .returned (.tuple #[.pointer none,.bool false])∧Below w.heap.size w w'
 | some x=>∃ D,e = .returned (.tuple #[.pointer (some ⟨D,0,none⟩),.bool true])∧w.heap.size≤D∧RatAt w' D x∧Bdr 20000 x∧Below w.heap.size w w'
theorem DPost.no {w w':World} {r:Option Rat} (hr:r=none) (hb:Below w.heap.size w w'):DPost w r (.returned (.tuple #[.pointer none,.bool false])) w':=by
 subst hr; exact ⟨rfl,hb⟩
theorem DPost.yes {w w':World} {r:Option Rat} {x:Rat} {D:Nat} (hr:r=some x) (hD:w.heap.size≤D) (hx:RatAt w' D x) (hs:Bdr 20000 x) (hb:Below w.heap.size w w'):DPost w r (.returned (.tuple #[.pointer (some ⟨D,0,none⟩),.bool true])) w':=by
 subst hr; exact ⟨D,rfl,hD,hx,hs,hb⟩
theorem zbT {M:Nat} {k:Int} (h:600<(T M).size∨(k<0∧600<1-k)∨(0≤k∧M≠0∧600<((T M).size:Int)+k)):scaleF M k=none:=if_pos h
theorem za1 {M:Nat} {k:Int} (h:¬ (600<(T M).size∨(k<0∧600<1-k)∨(0≤k∧M≠0∧600<((T M).size:Int)+k))):scaleF M k=some (((M:Int):Rat)*tenR k):=if_neg h
theorem t0_eq:((T 0).toList == ([48]:List UInt8))=true:=by rw [ZQ.ba_toList]; unfold T; rw [zbW (by decide)]; rfl
theorem t0_ne {M:Nat} (h:M≠0):((T M).toList == ([48]:List UInt8))=false:=by
 rw [beq_eq_false_iff_ne,ZQ.ba_toList]
 intro e
 have h2:(T M).data.toList=(T 0).data.toList:=by rw [e]; unfold T; rw [zbW (by decide)]; rfl
 exact h (T_inj ((zaT h2).trans (zaT rfl).symm))
theorem bs_nil {s:ByteArray} (h:s.size=0):s.toList=([]:List UInt8):=by
 rw [ZQ.ba_toList]; exact List.length_eq_zero_iff.1 (by rw [zah]; exact h)
theorem bs_ne {s:ByteArray} (h:s.size≠0):s.toList.isEmpty=false∧(s.toList == ([]:List UInt8))=false:=by
 have h2:s.toList ≠ []:=fun e=>h (by rw [ZQ.ba_toList] at e; rw [←zah,e]; rfl)
 exact ⟨by cases hh:s.toList with
  | nil=>exact absurd hh h2
  | cons a b=>rfl,beq_eq_false_iff_ne.2 h2⟩
theorem zb5 {M:Nat} {k:Int} (h:(T M).size≤600) (hk : -600≤k) (hk2:k≤4096):Bdr 20000 (((M:Int):Rat)*tenR k):=by
 have h1:Bd 2000 ((M:Nat):Int):=bd600 ((zaB (by decide)).1 h)
 exact ((Bdr.int h1 (by decide)).mul (Bdr.tenR k)).mono (by omega)
theorem decimal_0a (w0 w:World) (g:Nat) (s:ByteArray) (f:Fm) (h:FSt w0 w g s f) (hm:Dig f.m.data.toList) (hml:f.m.size≤200000) (hx:Dig f.exp.data.toList) (hxl:f.exp.size≤65536) (hbh:f.behind≤65536) (he:f.exp.size=0) (hb:f.behind=0) :
  Calls Tryz.prog 115 #[.pointer (some ⟨g,0,none⟩)] w (DPost w (scaleF (dval f.m.data.toList) (0))):=by
 have c4:=h.c 4 (.string f.m) rfl
 have c5:=h.c 5 (.int .i64 f.behind) rfl
 have c6:=h.c 6 (.string f.exp) rfl
 have c7:=h.c 7 (.bool f.minus) rfl
 have HB:=Lib.hid h.below
 have HG:=Lib.hid (zas h.blk)
 have hu105:=Tryz.underlying70
 have hu112:=Tryz.underlying83
 have HM:=fun W=>zaJ f.m W hm
 have HX:=fun W=>zaJ f.exp W hx
 clear hm hx h
 have he1:=bs_nil he
 generalize dval f.m.data.toList=M at *
 rw [hb] at c5
 generalize f.exp=ex at *
 clear HX he
 have hbc:=Below.refl w.heap.size w
 go_enter Tryz.func115,Tryz.ntmps115
 go_wp2_with fail
 refine (HM _).mono ?_
 rintro e w1 ⟨rfl,rfl⟩
 clear HM
 by_cases h1:600<(T M).size
 ·have HR:=Lib.hid (zbT (M:=M) (k:=0) (Or.inl h1))
  go_wp2
  go_ret2
  exact DPost.no HR.out hbc
 ·have hk:¬ (0:Int)<0:=by omega
  ·by_cases hM:M=0
   ·subst hM
    have hz:=t0_eq
    have HR:=Lib.hid ((za1 (M:=0) (k:=0) (fun h=>h.elim h1 (fun h=>h.elim (fun h=>hk h.1) (fun h=>h.2.1 rfl)))).trans (congrArg some (Rat.zero_mul _)))
    have hnew:=RatAt.new w 83 (by decide)
    have hba:=zaa (Below.refl w.heap.size w) (.cells #[.bool false,.slice none 0 0,.bool false,.slice none 0 0] 83)
    have hsz:=hbc.size
    go_wp2
    go_ret2
    exact DPost.yes HR.out hsz hnew ⟨show (0:Nat)<2^20000 from Nat.pow_pos (by decide),show (1:Nat)<2^20000 from Nat.one_lt_two_pow (by decide)⟩ (bthen hbc hba)
   ·have hz:=t0_ne hM
    have HR:=Lib.hid (za1 (M:=M) (k:=0) (fun h=>h.elim h1 (fun h=>h.elim (fun h=>hk h.1) (fun h=>by omega))))
    have HBR:=Lib.hid (zb5 (M:=M) (k:=0) (by omega) (by omega) (by omega))
    have HBM:=Lib.hid (show Bd 2000 ((M:Nat):Int) from bd600 ((zaB (by decide)).1 (by omega)))
    have hms:(T M).size≤1048576:=by omega
    have hsz:=hbc.size
    have hbA:=bthen (zaa (Below.refl w.heap.size w) (.cells #[.bool false,.slice none 0 0,.bool false,.slice none 0 0] 83)) (zaa (Below.refl _ _) (.cells #[.bool false,.slice none 0 0,.bool false,.slice none 0 0] 83))
    have hr2:RatAt ((w.alloc (.cells #[.bool false,.slice none 0 0,.bool false,.slice none 0 0] 83)).alloc (.cells #[.bool false,.slice none 0 0,.bool false,.slice none 0 0] 83)) (w.heap.size+1) 0:=by
     have h:=RatAt.new (w.alloc (.cells #[.bool false,.slice none 0 0,.bool false,.slice none 0 0] 83)) 83 (by decide)
     rwa [World.size_alloc] at h
    have hr1:=(RatAt.new w 83 (by decide)).slot.below (zaa (Below.refl (w.alloc (.cells #[.bool false,.slice none 0 0,.bool false,.slice none 0 0] 83)).heap.size (w.alloc (.cells #[.bool false,.slice none 0 0,.bool false,.slice none 0 0] 83))) (.cells #[.bool false,.slice none 0 0,.bool false,.slice none 0 0] 83))
    have hBA:=bthen hbc hbA
    go_wp2_with fail
    generalize (w.alloc (.cells #[.bool false,.slice none 0 0,.bool false,.slice none 0 0] 83)).alloc (.cells #[.bool false,.slice none 0 0,.bool false,.slice none 0 0] 83)=wA at *
    have hsA:=hbA.size
    have hz20:w.heap.size≤w.heap.size+1:=by omega
    with_reducible refine (zbb M _ hms).mono ?_
    rintro e w3 ⟨D,rfl,hD,hm3,hb3⟩
    have hr23:=hr2.slot.below hb3
    have hr13:=hr1.below hb3
    have hB3:=bthen hBA hb3
    have hlA:=hr2.lt
    clear hr2 hr1 hBA hbA hb3
    go_wp2_with fail
    with_reducible refine (zaP (w.heap.size+1) D 0 M _ hr23 hm3 HBM.out (by unfold big; omega)).mono ?_
    rintro e w4 ⟨rfl,hf4,hu4⟩
    have hr14:=hr13.upd hu4
    have hB4:=hu4.new hB3 hz20
    clear hr23 hr13 hm3 hB3 hu4
    go_wp2_with fail
    with_reducible refine (zbN (0) _ (by omega) (by omega)).mono ?_
    rintro e w5 ⟨G,rfl,hG,ht5,hb5⟩
    have hf5:=hf4.below hb5
    have hr15:=hr14.below hb5
    have hB5:=bthen hB4 hb5
    have htn:=Bdr.tenR (0)
    have HTN:=Lib.hid htn
    have hkn:(0:Int).natAbs≤10000:=by omega
    clear hf4 hr14 hB4 hb5 htn
    go_wp2_with fail
    with_reducible refine (zbv w.heap.size (w.heap.size+1) G _ _ _ hr15 hf5 ht5 (Bdr.int HBM.out (by decide)) HTN.out (by unfold big; omega)).mono ?_
    rintro e w6 ⟨rfl,hm6,hu6⟩
    have hB6:=hu6.new hB5 hsz
    clear hr15 hf5 ht5 hB5 hu6
    go_wp2
    go_ret2
    exact DPost.yes HR.out hsz hm6 HBR.out hB6
theorem decimal_0b (w0 w:World) (g:Nat) (s:ByteArray) (f:Fm) (h:FSt w0 w g s f) (hm:Dig f.m.data.toList) (hml:f.m.size≤200000) (hx:Dig f.exp.data.toList) (hxl:f.exp.size≤65536) (hbh:f.behind≤65536) (he:f.exp.size=0) (hb:f.behind≠0) :
  Calls Tryz.prog 115 #[.pointer (some ⟨g,0,none⟩)] w (DPost w (scaleF (dval f.m.data.toList) (-(f.behind:Int)))):=by
 have c4:=h.c 4 (.string f.m) rfl
 have c5:=h.c 5 (.int .i64 f.behind) rfl
 have c6:=h.c 6 (.string f.exp) rfl
 have c7:=h.c 7 (.bool f.minus) rfl
 have HB:=Lib.hid h.below
 have HG:=Lib.hid (zas h.blk)
 have hu105:=Tryz.underlying70
 have hu112:=Tryz.underlying83
 have HM:=fun W=>zaJ f.m W hm
 have HX:=fun W=>zaJ f.exp W hx
 clear hm hx h
 have he1:=bs_nil he
 generalize dval f.m.data.toList=M at *
 generalize f.behind=b at *
 generalize f.exp=ex at *
 clear HX he
 have hbc:=Below.refl w.heap.size w
 go_enter Tryz.func115,Tryz.ntmps115
 go_wp2_with fail
 refine (HM _).mono ?_
 rintro e w1 ⟨rfl,rfl⟩
 clear HM
 by_cases h1:600<(T M).size
 ·have HR:=Lib.hid (zbT (M:=M) (k:=-(b:Int)) (Or.inl h1))
  go_wp2
  go_ret2
  exact DPost.no HR.out hbc
 ·have hk : -(b:Int)<0:=by omega
  skip
  ·by_cases h2:600<1-(-(b:Int))
   ·have HR:=Lib.hid (zbT (M:=M) (k:=-(b:Int)) (Or.inr (Or.inl ⟨hk,h2⟩)))
    go_wp2
    go_ret2
    exact DPost.no HR.out hbc
   ·by_cases hM:M=0
    ·subst hM
     have hz:=t0_eq
     have HR:=Lib.hid ((za1 (M:=0) (k:=-(b:Int)) (fun h=>h.elim h1 (fun h=>h.elim (fun h=>h2 h.2) (fun h=>by omega)))).trans (congrArg some (Rat.zero_mul _)))
     have hnew:=RatAt.new w 83 (by decide)
     have hba:=zaa (Below.refl w.heap.size w) (.cells #[.bool false,.slice none 0 0,.bool false,.slice none 0 0] 83)
     have hsz:=hbc.size
     go_wp2
     go_ret2
     exact DPost.yes HR.out hsz hnew ⟨show (0:Nat)<2^20000 from Nat.pow_pos (by decide),show (1:Nat)<2^20000 from Nat.one_lt_two_pow (by decide)⟩ (bthen hbc hba)
    ·have hz:=t0_ne hM
     have HR:=Lib.hid (za1 (M:=M) (k:=-(b:Int)) (fun h=>h.elim h1 (fun h=>h.elim (fun h=>h2 h.2) (fun h=>by omega))))
     have HBR:=Lib.hid (zb5 (M:=M) (k:=-(b:Int)) (by omega) (by omega) (by omega))
     have HBM:=Lib.hid (show Bd 2000 ((M:Nat):Int) from bd600 ((zaB (by decide)).1 (by omega)))
     have hms:(T M).size≤1048576:=by omega
     have hsz:=hbc.size
     have hbA:=bthen (zaa (Below.refl w.heap.size w) (.cells #[.bool false,.slice none 0 0,.bool false,.slice none 0 0] 83)) (zaa (Below.refl _ _) (.cells #[.bool false,.slice none 0 0,.bool false,.slice none 0 0] 83))
     have hr2:RatAt ((w.alloc (.cells #[.bool false,.slice none 0 0,.bool false,.slice none 0 0] 83)).alloc (.cells #[.bool false,.slice none 0 0,.bool false,.slice none 0 0] 83)) (w.heap.size+1) 0:=by
      have h:=RatAt.new (w.alloc (.cells #[.bool false,.slice none 0 0,.bool false,.slice none 0 0] 83)) 83 (by decide)
      rwa [World.size_alloc] at h
     have hr1:=(RatAt.new w 83 (by decide)).slot.below (zaa (Below.refl (w.alloc (.cells #[.bool false,.slice none 0 0,.bool false,.slice none 0 0] 83)).heap.size (w.alloc (.cells #[.bool false,.slice none 0 0,.bool false,.slice none 0 0] 83))) (.cells #[.bool false,.slice none 0 0,.bool false,.slice none 0 0] 83))
     have hBA:=bthen hbc hbA
     go_wp2_with fail
     generalize (w.alloc (.cells #[.bool false,.slice none 0 0,.bool false,.slice none 0 0] 83)).alloc (.cells #[.bool false,.slice none 0 0,.bool false,.slice none 0 0] 83)=wA at *
     have hsA:=hbA.size
     have hz20:w.heap.size≤w.heap.size+1:=by omega
     with_reducible refine (zbb M _ hms).mono ?_
     rintro e w3 ⟨D,rfl,hD,hm3,hb3⟩
     have hr23:=hr2.slot.below hb3
     have hr13:=hr1.below hb3
     have hB3:=bthen hBA hb3
     have hlA:=hr2.lt
     clear hr2 hr1 hBA hbA hb3
     go_wp2_with fail
     with_reducible refine (zaP (w.heap.size+1) D 0 M _ hr23 hm3 HBM.out (by unfold big; omega)).mono ?_
     rintro e w4 ⟨rfl,hf4,hu4⟩
     have hr14:=hr13.upd hu4
     have hB4:=hu4.new hB3 hz20
     clear hr23 hr13 hm3 hB3 hu4
     go_wp2_with fail
     with_reducible refine (zbN (-(b:Int)) _ (by omega) (by omega)).mono ?_
     rintro e w5 ⟨G,rfl,hG,ht5,hb5⟩
     have hf5:=hf4.below hb5
     have hr15:=hr14.below hb5
     have hB5:=bthen hB4 hb5
     have htn:=Bdr.tenR (-(b:Int))
     have HTN:=Lib.hid htn
     have hkn:(-(b:Int):Int).natAbs≤10000:=by omega
     clear hf4 hr14 hB4 hb5 htn
     go_wp2_with fail
     with_reducible refine (zbv w.heap.size (w.heap.size+1) G _ _ _ hr15 hf5 ht5 (Bdr.int HBM.out (by decide)) HTN.out (by unfold big; omega)).mono ?_
     rintro e w6 ⟨rfl,hm6,hu6⟩
     have hB6:=hu6.new hB5 hsz
     clear hr15 hf5 ht5 hB5 hu6
     go_wp2
     go_ret2
     exact DPost.yes HR.out hsz hm6 HBR.out hB6
theorem decimal_m (w0 w:World) (g:Nat) (s:ByteArray) (f:Fm) (h:FSt w0 w g s f) (hm:Dig f.m.data.toList) (hml:f.m.size≤200000) (hx:Dig f.exp.data.toList) (hxl:f.exp.size≤65536) (hbh:f.behind≤65536) (he:f.exp.size≠0) (hE:dval f.exp.data.toList≤4096) (hmi:f.minus=true) :
  Calls Tryz.prog 115 #[.pointer (some ⟨g,0,none⟩)] w (DPost w (scaleF (dval f.m.data.toList) (-(dval f.exp.data.toList:Int)-(f.behind:Int)))):=by
 have c4:=h.c 4 (.string f.m) rfl
 have c5:=h.c 5 (.int .i64 f.behind) rfl
 have c6:=h.c 6 (.string f.exp) rfl
 have c7:=h.c 7 (.bool f.minus) rfl
 have HB:=Lib.hid h.below
 have HG:=Lib.hid (zas h.blk)
 have hu105:=Tryz.underlying70
 have hu112:=Tryz.underlying83
 have HM:=fun W=>zaJ f.m W hm
 have HX:=fun W=>zaJ f.exp W hx
 clear hm hx h
 obtain ⟨he1,he2⟩:=bs_ne he
 rw [hmi] at c7
 generalize dval f.m.data.toList=M at *
 generalize f.behind=b at *
 generalize dval f.exp.data.toList=E at *
 generalize f.exp=ex at *
 have hE600:E<10^600:=Nat.lt_of_le_of_lt hE (Nat.lt_of_lt_of_le (show 4096<10^4 by decide) (Nat.pow_le_pow_right (by decide) (by decide)))
 have HN:=fun W=>zco E W hE600
 have hni:natI E=((E:Int),0):=if_pos (by omega)
 rw [hni] at HN
 clear he hmi hE600 hni hxl
 go_enter Tryz.func115,Tryz.ntmps115
 go_wp2_with fail
 refine (HM _).mono ?_
 rintro e w1 ⟨rfl,rfl⟩
 clear HM
 go_wp2_with fail
 refine (HX _).mono ?_
 rintro e w1 ⟨rfl,rfl⟩
 go_wp2_with fail
 refine (HN _).mono ?_
 rintro e wc ⟨rfl,hbc⟩
 have c5':=(hbc.cell (p:=⟨g,5,none⟩) HG.out).trans c5
 have c7':=(hbc.cell (p:=⟨g,7,none⟩) HG.out).trans c7
 clear HX HN c4 c5 c6 c7
 by_cases h1:600<(T M).size
 ·have HR:=Lib.hid (zbT (M:=M) (k:=-(E:Int)-(b:Int)) (Or.inl h1))
  go_wp2
  go_ret2
  exact DPost.no HR.out hbc
 ·by_cases hk : -(E:Int)-(b:Int)<0
  ·by_cases h2:600<1-(-(E:Int)-(b:Int))
   ·have HR:=Lib.hid (zbT (M:=M) (k:=-(E:Int)-(b:Int)) (Or.inr (Or.inl ⟨hk,h2⟩)))
    go_wp2
    go_ret2
    exact DPost.no HR.out hbc
   ·by_cases hM:M=0
    ·subst hM
     have hz:=t0_eq
     have HR:=Lib.hid ((za1 (M:=0) (k:=-(E:Int)-(b:Int)) (fun h=>h.elim h1 (fun h=>h.elim (fun h=>h2 h.2) (fun h=>by omega)))).trans (congrArg some (Rat.zero_mul _)))
     have hnew:=RatAt.new wc 83 (by decide)
     have hba:=zaa (Below.refl wc.heap.size wc) (.cells #[.bool false,.slice none 0 0,.bool false,.slice none 0 0] 83)
     have hsz:=hbc.size
     go_wp2
     go_ret2
     exact DPost.yes HR.out hsz hnew ⟨show (0:Nat)<2^20000 from Nat.pow_pos (by decide),show (1:Nat)<2^20000 from Nat.one_lt_two_pow (by decide)⟩ (bthen hbc hba)
    ·have hz:=t0_ne hM
     have HR:=Lib.hid (za1 (M:=M) (k:=-(E:Int)-(b:Int)) (fun h=>h.elim h1 (fun h=>h.elim (fun h=>h2 h.2) (fun h=>by omega))))
     have HBR:=Lib.hid (zb5 (M:=M) (k:=-(E:Int)-(b:Int)) (by omega) (by omega) (by omega))
     have HBM:=Lib.hid (show Bd 2000 ((M:Nat):Int) from bd600 ((zaB (by decide)).1 (by omega)))
     have hms:(T M).size≤1048576:=by omega
     have hsz:=hbc.size
     have hbA:=bthen (zaa (Below.refl wc.heap.size wc) (.cells #[.bool false,.slice none 0 0,.bool false,.slice none 0 0] 83)) (zaa (Below.refl _ _) (.cells #[.bool false,.slice none 0 0,.bool false,.slice none 0 0] 83))
     have hr2:RatAt ((wc.alloc (.cells #[.bool false,.slice none 0 0,.bool false,.slice none 0 0] 83)).alloc (.cells #[.bool false,.slice none 0 0,.bool false,.slice none 0 0] 83)) (wc.heap.size+1) 0:=by
      have h:=RatAt.new (wc.alloc (.cells #[.bool false,.slice none 0 0,.bool false,.slice none 0 0] 83)) 83 (by decide)
      rwa [World.size_alloc] at h
     have hr1:=(RatAt.new wc 83 (by decide)).slot.below (zaa (Below.refl (wc.alloc (.cells #[.bool false,.slice none 0 0,.bool false,.slice none 0 0] 83)).heap.size (wc.alloc (.cells #[.bool false,.slice none 0 0,.bool false,.slice none 0 0] 83))) (.cells #[.bool false,.slice none 0 0,.bool false,.slice none 0 0] 83))
     have hBA:=bthen hbc hbA
     go_wp2_with fail
     generalize (wc.alloc (.cells #[.bool false,.slice none 0 0,.bool false,.slice none 0 0] 83)).alloc (.cells #[.bool false,.slice none 0 0,.bool false,.slice none 0 0] 83)=wA at *
     have hsA:=hbA.size
     have hz20:w.heap.size≤wc.heap.size+1:=by omega
     with_reducible refine (zbb M _ hms).mono ?_
     rintro e w3 ⟨D,rfl,hD,hm3,hb3⟩
     have hr23:=hr2.slot.below hb3
     have hr13:=hr1.below hb3
     have hB3:=bthen hBA hb3
     have hlA:=hr2.lt
     clear hr2 hr1 hBA hbA hb3
     go_wp2_with fail
     with_reducible refine (zaP (wc.heap.size+1) D 0 M _ hr23 hm3 HBM.out (by unfold big; omega)).mono ?_
     rintro e w4 ⟨rfl,hf4,hu4⟩
     have hr14:=hr13.upd hu4
     have hB4:=hu4.new hB3 hz20
     clear hr23 hr13 hm3 hB3 hu4
     go_wp2_with fail
     with_reducible refine (zbN (-(E:Int)-(b:Int)) _ (by omega) (by omega)).mono ?_
     rintro e w5 ⟨G,rfl,hG,ht5,hb5⟩
     have hf5:=hf4.below hb5
     have hr15:=hr14.below hb5
     have hB5:=bthen hB4 hb5
     have htn:=Bdr.tenR (-(E:Int)-(b:Int))
     have HTN:=Lib.hid htn
     have hkn:(-(E:Int)-(b:Int):Int).natAbs≤10000:=by omega
     clear hf4 hr14 hB4 hb5 htn
     go_wp2_with fail
     with_reducible refine (zbv wc.heap.size (wc.heap.size+1) G _ _ _ hr15 hf5 ht5 (Bdr.int HBM.out (by decide)) HTN.out (by unfold big; omega)).mono ?_
     rintro e w6 ⟨rfl,hm6,hu6⟩
     have hB6:=hu6.new hB5 hsz
     clear hr15 hf5 ht5 hB5 hu6
     go_wp2
     go_ret2
     exact DPost.yes HR.out hsz hm6 HBR.out hB6
  ·by_cases hM:M=0
   ·subst hM
    have hz:=t0_eq
    have HR:=Lib.hid ((za1 (M:=0) (k:=-(E:Int)-(b:Int)) (fun h=>h.elim h1 (fun h=>h.elim (fun h=>hk h.1) (fun h=>h.2.1 rfl)))).trans (congrArg some (Rat.zero_mul _)))
    have hnew:=RatAt.new wc 83 (by decide)
    have hba:=zaa (Below.refl wc.heap.size wc) (.cells #[.bool false,.slice none 0 0,.bool false,.slice none 0 0] 83)
    have hsz:=hbc.size
    go_wp2
    go_ret2
    exact DPost.yes HR.out hsz hnew ⟨show (0:Nat)<2^20000 from Nat.pow_pos (by decide),show (1:Nat)<2^20000 from Nat.one_lt_two_pow (by decide)⟩ (bthen hbc hba)
   ·by_cases h3:600<((T M).size:Int)+(-(E:Int)-(b:Int))
    ·exact absurd h3 (by omega)
    ·have hz:=t0_ne hM
     have HR:=Lib.hid (za1 (M:=M) (k:=-(E:Int)-(b:Int)) (fun h=>h.elim h1 (fun h=>h.elim (fun h=>hk h.1) (fun h=>h3 h.2.2))))
     have HBR:=Lib.hid (zb5 (M:=M) (k:=-(E:Int)-(b:Int)) (by omega) (by omega) (by omega))
     have HBM:=Lib.hid (show Bd 2000 ((M:Nat):Int) from bd600 ((zaB (by decide)).1 (by omega)))
     have hms:(T M).size≤1048576:=by omega
     have hsz:=hbc.size
     have hbA:=bthen (zaa (Below.refl wc.heap.size wc) (.cells #[.bool false,.slice none 0 0,.bool false,.slice none 0 0] 83)) (zaa (Below.refl _ _) (.cells #[.bool false,.slice none 0 0,.bool false,.slice none 0 0] 83))
     have hr2:RatAt ((wc.alloc (.cells #[.bool false,.slice none 0 0,.bool false,.slice none 0 0] 83)).alloc (.cells #[.bool false,.slice none 0 0,.bool false,.slice none 0 0] 83)) (wc.heap.size+1) 0:=by
      have h:=RatAt.new (wc.alloc (.cells #[.bool false,.slice none 0 0,.bool false,.slice none 0 0] 83)) 83 (by decide)
      rwa [World.size_alloc] at h
     have hr1:=(RatAt.new wc 83 (by decide)).slot.below (zaa (Below.refl (wc.alloc (.cells #[.bool false,.slice none 0 0,.bool false,.slice none 0 0] 83)).heap.size (wc.alloc (.cells #[.bool false,.slice none 0 0,.bool false,.slice none 0 0] 83))) (.cells #[.bool false,.slice none 0 0,.bool false,.slice none 0 0] 83))
     have hBA:=bthen hbc hbA
     go_wp2_with fail
     generalize (wc.alloc (.cells #[.bool false,.slice none 0 0,.bool false,.slice none 0 0] 83)).alloc (.cells #[.bool false,.slice none 0 0,.bool false,.slice none 0 0] 83)=wA at *
     have hsA:=hbA.size
     have hz20:w.heap.size≤wc.heap.size+1:=by omega
     with_reducible refine (zbb M _ hms).mono ?_
     rintro e w3 ⟨D,rfl,hD,hm3,hb3⟩
     have hr23:=hr2.slot.below hb3
     have hr13:=hr1.below hb3
     have hB3:=bthen hBA hb3
     have hlA:=hr2.lt
     clear hr2 hr1 hBA hbA hb3
     go_wp2_with fail
     with_reducible refine (zaP (wc.heap.size+1) D 0 M _ hr23 hm3 HBM.out (by unfold big; omega)).mono ?_
     rintro e w4 ⟨rfl,hf4,hu4⟩
     have hr14:=hr13.upd hu4
     have hB4:=hu4.new hB3 hz20
     clear hr23 hr13 hm3 hB3 hu4
     go_wp2_with fail
     with_reducible refine (zbN (-(E:Int)-(b:Int)) _ (by omega) (by omega)).mono ?_
     rintro e w5 ⟨G,rfl,hG,ht5,hb5⟩
     have hf5:=hf4.below hb5
     have hr15:=hr14.below hb5
     have hB5:=bthen hB4 hb5
     have htn:=Bdr.tenR (-(E:Int)-(b:Int))
     have HTN:=Lib.hid htn
     have hkn:(-(E:Int)-(b:Int):Int).natAbs≤10000:=by omega
     clear hf4 hr14 hB4 hb5 htn
     go_wp2_with fail
     with_reducible refine (zbv wc.heap.size (wc.heap.size+1) G _ _ _ hr15 hf5 ht5 (Bdr.int HBM.out (by decide)) HTN.out (by unfold big; omega)).mono ?_
     rintro e w6 ⟨rfl,hm6,hu6⟩
     have hB6:=hu6.new hB5 hsz
     clear hr15 hf5 ht5 hB5 hu6
     go_wp2
     go_ret2
     exact DPost.yes HR.out hsz hm6 HBR.out hB6
theorem decimal_p (w0 w:World) (g:Nat) (s:ByteArray) (f:Fm) (h:FSt w0 w g s f) (hm:Dig f.m.data.toList) (hml:f.m.size≤200000) (hx:Dig f.exp.data.toList) (hxl:f.exp.size≤65536) (hbh:f.behind≤65536) (he:f.exp.size≠0) (hE:dval f.exp.data.toList≤4096) (hmi:f.minus=false) :
  Calls Tryz.prog 115 #[.pointer (some ⟨g,0,none⟩)] w (DPost w (scaleF (dval f.m.data.toList) ((dval f.exp.data.toList:Int)-(f.behind:Int)))):=by
 have c4:=h.c 4 (.string f.m) rfl
 have c5:=h.c 5 (.int .i64 f.behind) rfl
 have c6:=h.c 6 (.string f.exp) rfl
 have c7:=h.c 7 (.bool f.minus) rfl
 have HB:=Lib.hid h.below
 have HG:=Lib.hid (zas h.blk)
 have hu105:=Tryz.underlying70
 have hu112:=Tryz.underlying83
 have HM:=fun W=>zaJ f.m W hm
 have HX:=fun W=>zaJ f.exp W hx
 clear hm hx h
 obtain ⟨he1,he2⟩:=bs_ne he
 rw [hmi] at c7
 generalize dval f.m.data.toList=M at *
 generalize f.behind=b at *
 generalize dval f.exp.data.toList=E at *
 generalize f.exp=ex at *
 have hE600:E<10^600:=Nat.lt_of_le_of_lt hE (Nat.lt_of_lt_of_le (show 4096<10^4 by decide) (Nat.pow_le_pow_right (by decide) (by decide)))
 have HN:=fun W=>zco E W hE600
 have hni:natI E=((E:Int),0):=if_pos (by omega)
 rw [hni] at HN
 clear he hmi hE600 hni hxl
 go_enter Tryz.func115,Tryz.ntmps115
 go_wp2_with fail
 refine (HM _).mono ?_
 rintro e w1 ⟨rfl,rfl⟩
 clear HM
 go_wp2_with fail
 refine (HX _).mono ?_
 rintro e w1 ⟨rfl,rfl⟩
 go_wp2_with fail
 refine (HN _).mono ?_
 rintro e wc ⟨rfl,hbc⟩
 have c5':=(hbc.cell (p:=⟨g,5,none⟩) HG.out).trans c5
 have c7':=(hbc.cell (p:=⟨g,7,none⟩) HG.out).trans c7
 clear HX HN c4 c5 c6 c7
 by_cases h1:600<(T M).size
 ·have HR:=Lib.hid (zbT (M:=M) (k:=(E:Int)-(b:Int)) (Or.inl h1))
  go_wp2
  go_ret2
  exact DPost.no HR.out hbc
 ·by_cases hk:(E:Int)-(b:Int)<0
  ·by_cases h2:600<1-((E:Int)-(b:Int))
   ·have HR:=Lib.hid (zbT (M:=M) (k:=(E:Int)-(b:Int)) (Or.inr (Or.inl ⟨hk,h2⟩)))
    go_wp2
    go_ret2
    exact DPost.no HR.out hbc
   ·by_cases hM:M=0
    ·subst hM
     have hz:=t0_eq
     have HR:=Lib.hid ((za1 (M:=0) (k:=(E:Int)-(b:Int)) (fun h=>h.elim h1 (fun h=>h.elim (fun h=>h2 h.2) (fun h=>by omega)))).trans (congrArg some (Rat.zero_mul _)))
     have hnew:=RatAt.new wc 83 (by decide)
     have hba:=zaa (Below.refl wc.heap.size wc) (.cells #[.bool false,.slice none 0 0,.bool false,.slice none 0 0] 83)
     have hsz:=hbc.size
     go_wp2
     go_ret2
     exact DPost.yes HR.out hsz hnew ⟨show (0:Nat)<2^20000 from Nat.pow_pos (by decide),show (1:Nat)<2^20000 from Nat.one_lt_two_pow (by decide)⟩ (bthen hbc hba)
    ·have hz:=t0_ne hM
     have HR:=Lib.hid (za1 (M:=M) (k:=(E:Int)-(b:Int)) (fun h=>h.elim h1 (fun h=>h.elim (fun h=>h2 h.2) (fun h=>by omega))))
     have HBR:=Lib.hid (zb5 (M:=M) (k:=(E:Int)-(b:Int)) (by omega) (by omega) (by omega))
     have HBM:=Lib.hid (show Bd 2000 ((M:Nat):Int) from bd600 ((zaB (by decide)).1 (by omega)))
     have hms:(T M).size≤1048576:=by omega
     have hsz:=hbc.size
     have hbA:=bthen (zaa (Below.refl wc.heap.size wc) (.cells #[.bool false,.slice none 0 0,.bool false,.slice none 0 0] 83)) (zaa (Below.refl _ _) (.cells #[.bool false,.slice none 0 0,.bool false,.slice none 0 0] 83))
     have hr2:RatAt ((wc.alloc (.cells #[.bool false,.slice none 0 0,.bool false,.slice none 0 0] 83)).alloc (.cells #[.bool false,.slice none 0 0,.bool false,.slice none 0 0] 83)) (wc.heap.size+1) 0:=by
      have h:=RatAt.new (wc.alloc (.cells #[.bool false,.slice none 0 0,.bool false,.slice none 0 0] 83)) 83 (by decide)
      rwa [World.size_alloc] at h
     have hr1:=(RatAt.new wc 83 (by decide)).slot.below (zaa (Below.refl (wc.alloc (.cells #[.bool false,.slice none 0 0,.bool false,.slice none 0 0] 83)).heap.size (wc.alloc (.cells #[.bool false,.slice none 0 0,.bool false,.slice none 0 0] 83))) (.cells #[.bool false,.slice none 0 0,.bool false,.slice none 0 0] 83))
     have hBA:=bthen hbc hbA
     go_wp2_with fail
     generalize (wc.alloc (.cells #[.bool false,.slice none 0 0,.bool false,.slice none 0 0] 83)).alloc (.cells #[.bool false,.slice none 0 0,.bool false,.slice none 0 0] 83)=wA at *
     have hsA:=hbA.size
     have hz20:w.heap.size≤wc.heap.size+1:=by omega
     with_reducible refine (zbb M _ hms).mono ?_
     rintro e w3 ⟨D,rfl,hD,hm3,hb3⟩
     have hr23:=hr2.slot.below hb3
     have hr13:=hr1.below hb3
     have hB3:=bthen hBA hb3
     have hlA:=hr2.lt
     clear hr2 hr1 hBA hbA hb3
     go_wp2_with fail
     with_reducible refine (zaP (wc.heap.size+1) D 0 M _ hr23 hm3 HBM.out (by unfold big; omega)).mono ?_
     rintro e w4 ⟨rfl,hf4,hu4⟩
     have hr14:=hr13.upd hu4
     have hB4:=hu4.new hB3 hz20
     clear hr23 hr13 hm3 hB3 hu4
     go_wp2_with fail
     with_reducible refine (zbN ((E:Int)-(b:Int)) _ (by omega) (by omega)).mono ?_
     rintro e w5 ⟨G,rfl,hG,ht5,hb5⟩
     have hf5:=hf4.below hb5
     have hr15:=hr14.below hb5
     have hB5:=bthen hB4 hb5
     have htn:=Bdr.tenR ((E:Int)-(b:Int))
     have HTN:=Lib.hid htn
     have hkn:((E:Int)-(b:Int):Int).natAbs≤10000:=by omega
     clear hf4 hr14 hB4 hb5 htn
     go_wp2_with fail
     with_reducible refine (zbv wc.heap.size (wc.heap.size+1) G _ _ _ hr15 hf5 ht5 (Bdr.int HBM.out (by decide)) HTN.out (by unfold big; omega)).mono ?_
     rintro e w6 ⟨rfl,hm6,hu6⟩
     have hB6:=hu6.new hB5 hsz
     clear hr15 hf5 ht5 hB5 hu6
     go_wp2
     go_ret2
     exact DPost.yes HR.out hsz hm6 HBR.out hB6
  ·by_cases hM:M=0
   ·subst hM
    have hz:=t0_eq
    have HR:=Lib.hid ((za1 (M:=0) (k:=(E:Int)-(b:Int)) (fun h=>h.elim h1 (fun h=>h.elim (fun h=>hk h.1) (fun h=>h.2.1 rfl)))).trans (congrArg some (Rat.zero_mul _)))
    have hnew:=RatAt.new wc 83 (by decide)
    have hba:=zaa (Below.refl wc.heap.size wc) (.cells #[.bool false,.slice none 0 0,.bool false,.slice none 0 0] 83)
    have hsz:=hbc.size
    go_wp2
    go_ret2
    exact DPost.yes HR.out hsz hnew ⟨show (0:Nat)<2^20000 from Nat.pow_pos (by decide),show (1:Nat)<2^20000 from Nat.one_lt_two_pow (by decide)⟩ (bthen hbc hba)
   ·by_cases h3:600<((T M).size:Int)+((E:Int)-(b:Int))
    ·have HR:=Lib.hid (zbT (M:=M) (k:=(E:Int)-(b:Int)) (Or.inr (Or.inr ⟨by omega,hM,h3⟩)))
     have hz:=t0_ne hM
     go_wp2
     go_ret2
     exact DPost.no HR.out hbc
    ·have hz:=t0_ne hM
     have HR:=Lib.hid (za1 (M:=M) (k:=(E:Int)-(b:Int)) (fun h=>h.elim h1 (fun h=>h.elim (fun h=>hk h.1) (fun h=>h3 h.2.2))))
     have HBR:=Lib.hid (zb5 (M:=M) (k:=(E:Int)-(b:Int)) (by omega) (by omega) (by omega))
     have HBM:=Lib.hid (show Bd 2000 ((M:Nat):Int) from bd600 ((zaB (by decide)).1 (by omega)))
     have hms:(T M).size≤1048576:=by omega
     have hsz:=hbc.size
     have hbA:=bthen (zaa (Below.refl wc.heap.size wc) (.cells #[.bool false,.slice none 0 0,.bool false,.slice none 0 0] 83)) (zaa (Below.refl _ _) (.cells #[.bool false,.slice none 0 0,.bool false,.slice none 0 0] 83))
     have hr2:RatAt ((wc.alloc (.cells #[.bool false,.slice none 0 0,.bool false,.slice none 0 0] 83)).alloc (.cells #[.bool false,.slice none 0 0,.bool false,.slice none 0 0] 83)) (wc.heap.size+1) 0:=by
      have h:=RatAt.new (wc.alloc (.cells #[.bool false,.slice none 0 0,.bool false,.slice none 0 0] 83)) 83 (by decide)
      rwa [World.size_alloc] at h
     have hr1:=(RatAt.new wc 83 (by decide)).slot.below (zaa (Below.refl (wc.alloc (.cells #[.bool false,.slice none 0 0,.bool false,.slice none 0 0] 83)).heap.size (wc.alloc (.cells #[.bool false,.slice none 0 0,.bool false,.slice none 0 0] 83))) (.cells #[.bool false,.slice none 0 0,.bool false,.slice none 0 0] 83))
     have hBA:=bthen hbc hbA
     go_wp2_with fail
     generalize (wc.alloc (.cells #[.bool false,.slice none 0 0,.bool false,.slice none 0 0] 83)).alloc (.cells #[.bool false,.slice none 0 0,.bool false,.slice none 0 0] 83)=wA at *
     have hsA:=hbA.size
     have hz20:w.heap.size≤wc.heap.size+1:=by omega
     with_reducible refine (zbb M _ hms).mono ?_
     rintro e w3 ⟨D,rfl,hD,hm3,hb3⟩
     have hr23:=hr2.slot.below hb3
     have hr13:=hr1.below hb3
     have hB3:=bthen hBA hb3
     have hlA:=hr2.lt
     clear hr2 hr1 hBA hbA hb3
     go_wp2_with fail
     with_reducible refine (zaP (wc.heap.size+1) D 0 M _ hr23 hm3 HBM.out (by unfold big; omega)).mono ?_
     rintro e w4 ⟨rfl,hf4,hu4⟩
     have hr14:=hr13.upd hu4
     have hB4:=hu4.new hB3 hz20
     clear hr23 hr13 hm3 hB3 hu4
     go_wp2_with fail
     with_reducible refine (zbN ((E:Int)-(b:Int)) _ (by omega) (by omega)).mono ?_
     rintro e w5 ⟨G,rfl,hG,ht5,hb5⟩
     have hf5:=hf4.below hb5
     have hr15:=hr14.below hb5
     have hB5:=bthen hB4 hb5
     have htn:=Bdr.tenR ((E:Int)-(b:Int))
     have HTN:=Lib.hid htn
     have hkn:((E:Int)-(b:Int):Int).natAbs≤10000:=by omega
     clear hf4 hr14 hB4 hb5 htn
     go_wp2_with fail
     with_reducible refine (zbv wc.heap.size (wc.heap.size+1) G _ _ _ hr15 hf5 ht5 (Bdr.int HBM.out (by decide)) HTN.out (by unfold big; omega)).mono ?_
     rintro e w6 ⟨rfl,hm6,hu6⟩
     have hB6:=hu6.new hB5 hsz
     clear hr15 hf5 ht5 hB5 hu6
     go_wp2
     go_ret2
     exact DPost.yes HR.out hsz hm6 HBR.out hB6
theorem decimal_x (w0 w:World) (g:Nat) (s:ByteArray) (f:Fm) (h:FSt w0 w g s f) (hm:Dig f.m.data.toList) (hml:f.m.size≤200000) (hx:Dig f.exp.data.toList) (hxl:f.exp.size≤65536) (hbh:f.behind≤65536) (he:f.exp.size≠0) (hE:4096<dval f.exp.data.toList) :
  Calls Tryz.prog 115 #[.pointer (some ⟨g,0,none⟩)] w (DPost w none):=by
 have c4:=h.c 4 (.string f.m) rfl
 have c5:=h.c 5 (.int .i64 f.behind) rfl
 have c6:=h.c 6 (.string f.exp) rfl
 have c7:=h.c 7 (.bool f.minus) rfl
 have HB:=Lib.hid h.below
 have HG:=Lib.hid (zas h.blk)
 have hu105:=Tryz.underlying70
 have hu112:=Tryz.underlying83
 have HM:=fun W=>zaJ f.m W hm
 have HX:=fun W=>zaJ f.exp W hx
 clear hm hx h
 obtain ⟨he1,he2⟩:=bs_ne he
 generalize dval f.m.data.toList=M at *
 generalize dval f.exp.data.toList=E at *
 generalize f.exp=ex at *
 clear he
 by_cases h6:E<10^600
 ·have HN:=fun W=>zco E W h6
  clear h6
  by_cases hbig:E<18446744073709551616
  ·have hni:natI E=((E:Int),0):=if_pos hbig
   rw [hni] at HN
   clear hni
   go_enter Tryz.func115,Tryz.ntmps115
   go_wp2_with fail
   refine (HM _).mono ?_
   rintro e w1 ⟨rfl,rfl⟩
   clear HM
   go_wp2_with fail
   refine (HX _).mono ?_
   rintro e w1 ⟨rfl,rfl⟩
   go_wp2_with fail
   refine (HN _).mono ?_
   rintro e wc ⟨rfl,hbc⟩
   clear HX HN c4 c5 c6 c7
   go_wp2
   go_ret2
   exact DPost.no rfl hbc
  ·have hni:natI E=(0,7):=if_neg hbig
   rw [hni] at HN
   clear hni hbig hE
   go_enter Tryz.func115,Tryz.ntmps115
   go_wp2_with fail
   refine (HM _).mono ?_
   rintro e w1 ⟨rfl,rfl⟩
   clear HM
   go_wp2_with fail
   refine (HX _).mono ?_
   rintro e w1 ⟨rfl,rfl⟩
   go_wp2_with fail
   refine (HN _).mono ?_
   rintro e wc ⟨rfl,hbc⟩
   clear HX HN c4 c5 c6 c7
   go_wp2
   go_ret2
   exact DPost.no rfl hbc
 ·have HN:=fun W=>natInt_no (T E) W (by
   cases hr:rightB (T E)
   ·rfl
   ·obtain ⟨n,h1,h2⟩:=right_iff.1 hr
    have:=T_inj h1
    omega)
  clear h6 hE
  go_enter Tryz.func115,Tryz.ntmps115
  go_wp2_with fail
  refine (HM _).mono ?_
  rintro e w1 ⟨rfl,rfl⟩
  clear HM
  go_wp2_with fail
  refine (HX _).mono ?_
  rintro e w1 ⟨rfl,rfl⟩
  go_wp2_with fail
  refine (HN _).mono ?_
  rintro e wc ⟨rfl,hbc⟩
  clear HX HN c4 c5 c6 c7
  go_wp2
  go_ret2
  exact DPost.no rfl hbc
theorem zcW (w0 w:World) (g:Nat) (s:ByteArray) (f:Fm) (h:FSt w0 w g s f) (hm:Dig f.m.data.toList) (hml:f.m.size≤200000) (hx:Dig f.exp.data.toList) (hxl:f.exp.size≤65536) (hbh:f.behind≤65536) :
  Calls Tryz.prog 115 #[.pointer (some ⟨g,0,none⟩)] w (DPost w (decF f)):=by
 by_cases he:f.exp.size=0
 ·by_cases hb:f.behind=0
  ·have:=decimal_0a w0 w g s f h hm hml hx hxl hbh he hb
   have e:decF f=scaleF (dval f.m.data.toList) 0:=by
    unfold decF expE
    rw [if_pos he]
    show scaleF _ (0-(f.behind:Int))=_
    rw [hb]; rfl
   rw [e]; exact this
  ·have:=decimal_0b w0 w g s f h hm hml hx hxl hbh he hb
   have e:decF f=scaleF (dval f.m.data.toList) (-(f.behind:Int)):=by
    unfold decF expE
    rw [if_pos he]
    show scaleF _ (0-(f.behind:Int))=_
    rw [Int.zero_sub]
   rw [e]; exact this
 ·by_cases hE:4096<dval f.exp.data.toList
  ·have:=decimal_x w0 w g s f h hm hml hx hxl hbh he hE
   have e:decF f=none:=by unfold decF expE; rw [if_neg he,if_pos hE]; rfl
   rw [e]; exact this
  ·cases hmi:f.minus
   ·have:=decimal_p w0 w g s f h hm hml hx hxl hbh he (by omega) hmi
    have e:decF f=scaleF (dval f.m.data.toList) ((dval f.exp.data.toList:Int)-(f.behind:Int)):=by unfold decF expE; rw [if_neg he,if_neg hE,hmi]; rfl
    rw [e]; exact this
   ·have:=decimal_m w0 w g s f h hm hml hx hxl hbh he (by omega) hmi
    have e:decF f=scaleF (dval f.m.data.toList) (-(dval f.exp.data.toList:Int)-(f.behind:Int)):=by unfold decF expE; rw [if_neg he,if_neg hE,hmi]; rfl
    rw [e]; exact this
end Go.Proofs.ZP
end
