/- Texts under the proof, joined by a program (prune.py): HFormOk, QRatParse, QForm, QRatRound, Q1, Q180, Q151, LawRatBack. -/
import Derived.Test.YtglaeambknhjlaaGreatDoorCShowReads19
import Derived.Test.YtglaeambknhjlaaGreatDoorCShowReads09
import Derived.StillTailTactics
import Derived.RegionTactic
import Derived.ChangeAlike
import Derived.Test.YtglaeambknhjlaaGreatDoorCShowReads14
import Derived.Test.YtglaeambknhjlaaGreatDoorCShowReads13
import Derived.Test.YtglaeambknhjlaaGreatDoorCShowReads16
import Derived.Test.YtglaeambknhjlaaGreatDoorCShowReads17
import Derived.Deep.CutRange
set_option linter.unusedVariables false
set_option linter.unusedSimpArgs false
set_option exponentiation.threshold 20001
set_option maxHeartbeats 8000000
set_option maxRecDepth 100000
section
namespace Go.Proofs.ZP
open Go.RowKit Go.Proofs.ZW.Wa
theorem isD_iff {c:UInt8}:isD c=true↔48≤c.toNat∧c.toNat≤57:=by unfold isD; simp
theorem digT_data (s:ByteArray) (f:Fm):(f.digT s).data.toList=(s.data.toList.drop f.at_).takeWhile isD:=by
 unfold Fm.digT runN
 rw [ByteArray.data_extract,Array.toList_extract,List.extract_eq_take_drop,Nat.add_sub_cancel_left]
 exact (List.prefix_iff_eq_take.1 (List.takeWhile_prefix isD)).symm
theorem dig_takeWhile (l:List UInt8):Dig (l.takeWhile isD):=by
 induction l with
 | nil=>intro c hc; cases hc
 | cons b t ih =>
  intro c hc
  rw [List.takeWhile_cons] at hc
  split at hc
  ·rename_i hb
   rcases List.mem_cons.1 hc with rfl|hc
   ·exact isD_iff.1 hb
   ·exact ih c hc
  ·cases hc
theorem dig_nil:Dig []:=fun c hc=>by cases hc
theorem digT_dig (s:ByteArray) (f:Fm):Dig (f.digT s).data.toList:=by rw [digT_data]; exact dig_takeWhile _
theorem dig_app {a b:ByteArray} (ha:Dig a.data.toList) (hb:Dig b.data.toList):Dig (a++b).data.toList:=fun c hc=>by
 rw [ByteArray.data_append,Array.toList_append] at hc
 exact (List.mem_append.1 hc).elim (ha c) (hb c)
structure Gd (s:ByteArray) (f:Fm):Prop where
 m:Dig f.m.data.toList
 x:Dig f.exp.data.toList
 d:Dig f.den.data.toList
 mz:f.m.size≤2*s.size
 xz:f.exp.size≤s.size
 dz:f.den.size≤s.size
 bh:f.behind≤s.size
 at_:Okf s f
theorem Gd.sgn {s set:ByteArray} {f:Fm} (h:Gd s f):Gd s (f.sgn s set):=by
 have ha:=h.at_.sgn (set:=set)
 unfold Fm.sgn at *
 split
 ·rename_i hb
  rw [if_pos hb] at ha
  exact ⟨h.m,h.x,h.d,h.mz,h.xz,h.dz,h.bh,ha⟩
 ·exact h
theorem Gd.dig {s:ByteArray} {f:Fm} (h:Gd s f):Gd s (f.dig s):=⟨h.m,h.x,h.d,h.mz,h.xz,h.dz,h.bh,h.at_.dig⟩
theorem sgn_m2 (s set:ByteArray) (f:Fm):(f.sgn s set).m=f.m:=Fm.sgn_m s set f
theorem form1_ok (s:ByteArray):Gd s (form1 s)∧(form1 s).m.size≤s.size:=by
 have h0:Gd s F0:=⟨dig_nil,dig_nil,dig_nil,Nat.zero_le _,Nat.zero_le _,Nat.zero_le _,Nat.zero_le _,Nat.zero_le _⟩
 have h1:Gd s { F0.sgn s cM with neg:=F0.sgV s cM != 0 }:=by
  have h:=h0.sgn (set:=cM)
  exact ⟨h.m,h.x,h.d,h.mz,h.xz,h.dz,h.bh,h.at_⟩
 have h2:=h1.dig
 have hz:=zcp s { F0.sgn s cM with neg:=F0.sgV s cM != 0 }
 exact ⟨⟨digT_dig _ _,h2.x,h2.d,Nat.le_trans hz (by omega),h2.xz,h2.dz,h2.bh,h2.at_⟩,hz⟩
theorem formS_ok {s:ByteArray} {f:Fm} (h:Gd s f):Gd s (formS s f):=by
 have h1:Gd s { f.sgn s cS with fraction:=true,slash:=(f.sgn s cS).at_ }:=by
  have h:=h.sgn (set:=cS)
  exact ⟨h.m,h.x,h.d,h.mz,h.xz,h.dz,h.bh,h.at_⟩
 have h2:=h1.dig
 exact ⟨h2.m,h2.x,digT_dig _ _,h2.mz,h2.xz,zcp _ _,h2.bh,h2.at_⟩
theorem formP_ok {s:ByteArray} {f:Fm} (h:Gd s f) (hm:f.m.size≤s.size):Gd s (formP s f):=by
 unfold formP
 split
 ·exact h.sgn
 ·have h1:=h.sgn (set:=cP)
  have h2:=h1.dig
  have hz:=zcp s (f.sgn s cP)
  refine ⟨dig_app h1.m (digT_dig _ _),h2.x,h2.d,?_,h2.xz,h2.dz,hz,h2.at_⟩
  show ((f.sgn s cP).m++_).size≤_
  rw [ByteArray.size_append,sgn_m2]
  omega
theorem formE_ok {s:ByteArray} {f:Fm} (h:Gd s f):Gd s (formE s f):=by
 unfold formE
 split
 ·exact h.sgn
 ·have h1:=h.sgn (set:=cE)
  have h2:Gd s { (f.sgn s cE).sgn s cPM with minus:=(f.sgn s cE).sgV s cPM == 45 }:=by
   have h:=h1.sgn (set:=cPM)
   exact ⟨h.m,h.x,h.d,h.mz,h.xz,h.dz,h.bh,h.at_⟩
  show Gd s (if _ then _ else _)
  split
  ·exact h2
  ·have h3:=h2.dig
   exact ⟨h3.m,digT_dig _ _,h3.d,h3.mz,zcp _ _,h3.dz,h3.bh,h3.at_⟩
theorem formF_ok (s:ByteArray):Gd s (formF s):=by
 obtain ⟨h1,h2⟩:=form1_ok s
 unfold formF
 split
 ·exact formE_ok (formP_ok h1.sgn (by rw [sgn_m2]; exact h2))
 ·exact formS_ok h1
noncomputable def signed (f:Fm) (x:Rat):Rat:=if f.neg then -x else x
noncomputable def fracF (f:Fm):Option Rat:=if 600<(T (dval f.m.data.toList)).size∨600<(T (dval f.den.data.toList)).size then none else some (Rat.divInt (dval f.m.data.toList) (dval f.den.data.toList))
noncomputable def toldP (f:Fm) (r:Option Rat):ByteArray×ByteArray×Int×Int:=match r with
 | none=>(⟨#[]⟩,⟨#[]⟩,7,0)
 | some x=>((toldR (signed f x)).1,(toldR (signed f x)).2.1,(toldR (signed f x)).2.2,0)
noncomputable def parseF (s:ByteArray):ByteArray×ByteArray×Int×Int:=
 if 65536<s.size then (⟨#[]⟩,⟨#[]⟩,4,0)
 else if (formF s).end_ s=false then (⟨#[]⟩,⟨#[]⟩,3,((formF s).at_:Int))
 else if (formF s).fraction=true then (if dval (formF s).den.data.toList=0 then (⟨#[]⟩,⟨#[]⟩,8,((formF s).slash:Int)) else toldP (formF s) (fracF (formF s)))
 else toldP (formF s) (decF (formF s))
end Go.Proofs.ZP
end
section
namespace Go.Proofs.ZQ
open Go.RowKit Go.Proofs.ZW.Wa Go.Proofs.ZP
theorem parse_size (s:ByteArray) (w:World) (hs:65536<s.size) :
  Calls Tryz.prog 59 #[.string s] w fun e w'=>e = .returned (.tuple #[.agg #[.string ((⟨#[]⟩,⟨#[]⟩,4,0):ByteArray×ByteArray×Int×Int).1,.string ((⟨#[]⟩,⟨#[]⟩,4,0):ByteArray×ByteArray×Int×Int).2.1],.int .i64 ((⟨#[]⟩,⟨#[]⟩,4,0):ByteArray×ByteArray×Int×Int).2.2.1,.int .i64 ((⟨#[]⟩,⟨#[]⟩,4,0):ByteArray×ByteArray×Int×Int).2.2.2])∧Below w.heap.size w w':=by
 have hba:=zaa (Below.refl w.heap.size w) (.cells #[.string ⟨#[]⟩,.string ⟨#[]⟩] 23)
 have hbk:=zaO w (.cells #[.string ⟨#[]⟩,.string ⟨#[]⟩] 23)
 have hsI:(65536:Int)<(s.size:Int):=by omega
 have HK:=Lib.hid hbk
 clear hbk
 go_enter Tryz.func59,Tryz.ntmps59
 go_wp2
 refine bodyPost_ret (za6 rfl _ _ w.heap.size 23 #[.string ⟨#[]⟩,.string ⟨#[]⟩] (0,0) _ rfl HK.out Tryz.underlying23 rfl (by kernel_rfl)) rfl ?_
 exact ⟨rfl,hba⟩
theorem parse_form (s:ByteArray) (w:World) (hs:s.size≤65536) (f:Fm) (hf:formF s=f) (he:f.end_ s=false) :
  Calls Tryz.prog 59 #[.string s] w fun e w'=>e = .returned (.tuple #[.agg #[.string ((⟨#[]⟩,⟨#[]⟩,3,(f.at_:Int)):ByteArray×ByteArray×Int×Int).1,.string ((⟨#[]⟩,⟨#[]⟩,3,(f.at_:Int)):ByteArray×ByteArray×Int×Int).2.1],.int .i64 ((⟨#[]⟩,⟨#[]⟩,3,(f.at_:Int)):ByteArray×ByteArray×Int×Int).2.2.1,.int .i64 ((⟨#[]⟩,⟨#[]⟩,3,(f.at_:Int)):ByteArray×ByteArray×Int×Int).2.2.2])∧Below w.heap.size w w':=by
 have hba:=zaa (Below.refl w.heap.size w) (.cells #[.string ⟨#[]⟩,.string ⟨#[]⟩] 23)
 have hbk:=zaO w (.cells #[.string ⟨#[]⟩,.string ⟨#[]⟩] 23)
 have HF:∀ W,Calls Tryz.prog 143 #[.string s] W fun e w'=>∃ g,e = .returned (.tuple #[.pointer (some ⟨g,0,none⟩),.bool (f.end_ s)])∧FSt W w' g s f:=fun W=>by
  subst hf
  exact zbP s W hs
 have hsI:¬ (65536:Int)<(s.size:Int):=by omega
 rw [he] at HF
 clear hf he
 go_enter Tryz.func59,Tryz.ntmps59
 go_wp2_with fail
 generalize w.alloc (.cells #[.string ⟨#[]⟩,.string ⟨#[]⟩] 23)=W0 at *
 generalize hBe:w.heap.size=B0 at hbk ⊢
 have HBE:=Lib.hid (show w.heap.size≤B0 by omega)
 clear hBe
 refine (HF _).mono ?_
 rintro e w1 ⟨g,rfl,h1⟩
 have hB1:=bthen hba h1.below
 have hbk1:=(h1.below.block _ (zaq hbk)).trans hbk
 have hgB:B0<g:=Nat.lt_of_lt_of_le (zaq hbk) h1.ge
 clear HF hba hbk
 have c1:=h1.c 1 (.int .i64 f.at_) rfl
 generalize hA:f.at_=a at c1
 have HA:=Lib.hid hA
 clear hA h1
 have cB0:=(zag hbk1 0).trans (show _=some (Value.string ⟨#[]⟩) from rfl)
 have cB1:=(zag hbk1 1).trans (show _=some (Value.string ⟨#[]⟩) from rfl)
 have fB0:=zae hbk1 0
 have fB1:=zae hbk1 1
 have hs1:=zax hbk1 0 (.string ⟨#[]⟩)
 have hs2:=zax hs1 1 (.string ⟨#[]⟩)
 have HS2:=Lib.hid (hs2.trans (show _=some (Obj.cells #[.string ⟨#[]⟩,.string ⟨#[]⟩] 23 (0,0)) from rfl))
 have HBF:=Lib.hid (zaf (zaf (g:=B0) (j:=0) (v:=.string ⟨#[]⟩) hB1 HBE.out) (j:=1) (v:=.string ⟨#[]⟩) (g:=B0) HBE.out)
 clear hs1 hs2 hbk1
 go_wp2_with fail
 go_region
 all_goals go_wp2
 all_goals refine bodyPost_ret (za6 rfl _ _ B0 23 #[.string ⟨#[]⟩,.string ⟨#[]⟩] (0,0) _ rfl (show _=some (Obj.cells #[.string ⟨#[]⟩,.string ⟨#[]⟩] 23 (0,0)) from HS2.out) Tryz.underlying23 rfl (by kernel_rfl)) rfl ?_
 all_goals exact ⟨by rw [HA.out]; rfl,bthen HBF.out (zad _)⟩
theorem parse_zero (s:ByteArray) (w:World) (hs:s.size≤65536) (f:Fm) (hf:formF s=f) (hg:Gd s f) (he:f.end_ s=true) (hfr:f.fraction=true) (hB:dval f.den.data.toList=0) :
  Calls Tryz.prog 59 #[.string s] w fun e w'=>e = .returned (.tuple #[.agg #[.string ((⟨#[]⟩,⟨#[]⟩,8,(f.slash:Int)):ByteArray×ByteArray×Int×Int).1,.string ((⟨#[]⟩,⟨#[]⟩,8,(f.slash:Int)):ByteArray×ByteArray×Int×Int).2.1],.int .i64 ((⟨#[]⟩,⟨#[]⟩,8,(f.slash:Int)):ByteArray×ByteArray×Int×Int).2.2.1,.int .i64 ((⟨#[]⟩,⟨#[]⟩,8,(f.slash:Int)):ByteArray×ByteArray×Int×Int).2.2.2])∧Below w.heap.size w w':=by
 have hba:=zaa (Below.refl w.heap.size w) (.cells #[.string ⟨#[]⟩,.string ⟨#[]⟩] 23)
 have hbk:=zaO w (.cells #[.string ⟨#[]⟩,.string ⟨#[]⟩] 23)
 have HF:∀ W,Calls Tryz.prog 143 #[.string s] W fun e w'=>∃ g,e = .returned (.tuple #[.pointer (some ⟨g,0,none⟩),.bool (f.end_ s)])∧FSt W w' g s f:=fun W=>by
  subst hf
  exact zbP s W hs
 have hsI:¬ (65536:Int)<(s.size:Int):=by omega
 rw [he] at HF
 have HM:=fun W=>(zaQ f.m W hg.m).mono (fun e w' ⟨h1,h2⟩=>(⟨h1,h2.symm⟩:_∧w'=W))
 have HD:=fun W=>(zaQ f.den W hg.d).mono (fun e w' ⟨h1,h2⟩=>(⟨h1,h2.symm⟩:_∧w'=W))
 clear hf he hg
 generalize dval f.m.data.toList=A at *
 generalize dval f.den.data.toList=B at *
 go_enter Tryz.func59,Tryz.ntmps59
 go_wp2_with fail
 generalize w.alloc (.cells #[.string ⟨#[]⟩,.string ⟨#[]⟩] 23)=W0 at *
 generalize hBe:w.heap.size=B0 at hbk ⊢
 have HBE:=Lib.hid (show w.heap.size≤B0 by omega)
 clear hBe
 refine (HF _).mono ?_
 rintro e w1 ⟨g,rfl,h1⟩
 have hB1:=bthen hba h1.below
 have hbk1:=(h1.below.block _ (zaq hbk)).trans hbk
 have hgB:B0<g:=Nat.lt_of_lt_of_le (zaq hbk) h1.ge
 clear HF hba hbk
 have c9:=h1.c 9 (.bool f.fraction) rfl
 rw [hfr] at c9
 have c4:=h1.c 4 (.string f.m) rfl
 have c8:=h1.c 8 (.string f.den) rfl
 have H1:=Lib.hid h1
 have HFR:=Lib.hid hfr
 clear h1 hfr
 go_wp2_with fail
 go_quiet ((first|(go_at_call 144; exact Calls.quiet_of_same (HM _))|(go_at_call 144; exact Calls.quiet_of_same (HD _))))
 generalize hqd:w1.drewN _=w2
 have hbd:Below w1.heap.size w1 w2:=by subst hqd; exact zap _ _
 have h2:FSt W0 w2 g s f:=by subst hqd; exact H1.out.drewN _
 have hB2:=bthen hB1 hbd
 have hbk2:=(hbd.block _ (zaq hbk1)).trans hbk1
 clear hqd hbd hB1 hbk1 HM HD H1 c4 c8 c9
 subst hB
 have hz:=t0_eq
 have c10:=h2.c 10 (.int .i64 f.slash) rfl
 generalize hA:f.slash=a at c10
 have HA:=Lib.hid hA
 clear hA h2
 go_wp2_with fail
 have cB0:=(zag hbk2 0).trans (show _=some (Value.string ⟨#[]⟩) from rfl)
 have cB1:=(zag hbk2 1).trans (show _=some (Value.string ⟨#[]⟩) from rfl)
 have fB0:=zae hbk2 0
 have fB1:=zae hbk2 1
 have hs1:=zax hbk2 0 (.string ⟨#[]⟩)
 have hs2:=zax hs1 1 (.string ⟨#[]⟩)
 have HS2:=Lib.hid (hs2.trans (show _=some (Obj.cells #[.string ⟨#[]⟩,.string ⟨#[]⟩] 23 (0,0)) from rfl))
 have HBF:=Lib.hid (zaf (zaf (g:=B0) (j:=0) (v:=.string ⟨#[]⟩) hB2 HBE.out) (j:=1) (v:=.string ⟨#[]⟩) (g:=B0) HBE.out)
 clear hs1 hs2 hbk2
 go_wp2_with fail
 go_region
 all_goals go_wp2
 all_goals refine bodyPost_ret (za6 rfl _ _ B0 23 #[.string ⟨#[]⟩,.string ⟨#[]⟩] (0,0) _ rfl (show _=some (Obj.cells #[.string ⟨#[]⟩,.string ⟨#[]⟩] 23 (0,0)) from HS2.out) Tryz.underlying23 rfl (by kernel_rfl)) rfl ?_
 all_goals exact ⟨by rw [HA.out]; rfl,bthen HBF.out (zad _)⟩
theorem parse_large (s:ByteArray) (w:World) (hs:s.size≤65536) (f:Fm) (hf:formF s=f) (hg:Gd s f) (he:f.end_ s=true) (hfr:f.fraction=true) (hB:dval f.den.data.toList≠0) (hl:600<(T (dval f.m.data.toList)).size∨600<(T (dval f.den.data.toList)).size) :
  Calls Tryz.prog 59 #[.string s] w fun e w'=>e = .returned (.tuple #[.agg #[.string ((⟨#[]⟩,⟨#[]⟩,7,0):ByteArray×ByteArray×Int×Int).1,.string ((⟨#[]⟩,⟨#[]⟩,7,0):ByteArray×ByteArray×Int×Int).2.1],.int .i64 ((⟨#[]⟩,⟨#[]⟩,7,0):ByteArray×ByteArray×Int×Int).2.2.1,.int .i64 ((⟨#[]⟩,⟨#[]⟩,7,0):ByteArray×ByteArray×Int×Int).2.2.2])∧Below w.heap.size w w':=by
 have hba:=zaa (Below.refl w.heap.size w) (.cells #[.string ⟨#[]⟩,.string ⟨#[]⟩] 23)
 have hbk:=zaO w (.cells #[.string ⟨#[]⟩,.string ⟨#[]⟩] 23)
 have HF:∀ W,Calls Tryz.prog 143 #[.string s] W fun e w'=>∃ g,e = .returned (.tuple #[.pointer (some ⟨g,0,none⟩),.bool (f.end_ s)])∧FSt W w' g s f:=fun W=>by
  subst hf
  exact zbP s W hs
 have hsI:¬ (65536:Int)<(s.size:Int):=by omega
 rw [he] at HF
 have HM:=fun W=>(zaQ f.m W hg.m).mono (fun e w' ⟨h1,h2⟩=>(⟨h1,h2.symm⟩:_∧w'=W))
 have HD:=fun W=>(zaQ f.den W hg.d).mono (fun e w' ⟨h1,h2⟩=>(⟨h1,h2.symm⟩:_∧w'=W))
 clear hf he hg
 generalize dval f.m.data.toList=A at *
 generalize dval f.den.data.toList=B at *
 go_enter Tryz.func59,Tryz.ntmps59
 go_wp2_with fail
 generalize w.alloc (.cells #[.string ⟨#[]⟩,.string ⟨#[]⟩] 23)=W0 at *
 generalize hBe:w.heap.size=B0 at hbk ⊢
 have HBE:=Lib.hid (show w.heap.size≤B0 by omega)
 clear hBe
 refine (HF _).mono ?_
 rintro e w1 ⟨g,rfl,h1⟩
 have hB1:=bthen hba h1.below
 have hbk1:=(h1.below.block _ (zaq hbk)).trans hbk
 have hgB:B0<g:=Nat.lt_of_lt_of_le (zaq hbk) h1.ge
 clear HF hba hbk
 have c9:=h1.c 9 (.bool f.fraction) rfl
 rw [hfr] at c9
 have c4:=h1.c 4 (.string f.m) rfl
 have c8:=h1.c 8 (.string f.den) rfl
 have H1:=Lib.hid h1
 have HFR:=Lib.hid hfr
 clear h1 hfr
 go_wp2_with fail
 go_quiet ((first|(go_at_call 144; exact Calls.quiet_of_same (HM _))|(go_at_call 144; exact Calls.quiet_of_same (HD _))))
 generalize hqd:w1.drewN _=w2
 have hbd:Below w1.heap.size w1 w2:=by subst hqd; exact zap _ _
 have h2:FSt W0 w2 g s f:=by subst hqd; exact H1.out.drewN _
 have hB2:=bthen hB1 hbd
 have hbk2:=(hbd.block _ (zaq hbk1)).trans hbk1
 clear hqd hbd hB1 hbk1 HM HD H1 c4 c8 c9
 have hz:=t0_ne hB
 clear h2
 by_cases h6:600<(T A).size
 ·have h6I:(600:Int)<((T A).size:Int):=by omega
  have cB0:=(zag hbk2 0).trans (show _=some (Value.string ⟨#[]⟩) from rfl)
  have cB1:=(zag hbk2 1).trans (show _=some (Value.string ⟨#[]⟩) from rfl)
  have fB0:=zae hbk2 0
  have fB1:=zae hbk2 1
  have hs1:=zax hbk2 0 (.string ⟨#[]⟩)
  have hs2:=zax hs1 1 (.string ⟨#[]⟩)
  have HS2:=Lib.hid (hs2.trans (show _=some (Obj.cells #[.string ⟨#[]⟩,.string ⟨#[]⟩] 23 (0,0)) from rfl))
  have HBF:=Lib.hid (zaf (zaf (g:=B0) (j:=0) (v:=.string ⟨#[]⟩) hB2 HBE.out) (j:=1) (v:=.string ⟨#[]⟩) (g:=B0) HBE.out)
  clear hs1 hs2 hbk2
  go_wp2
  refine bodyPost_ret (za6 rfl _ _ B0 23 #[.string ⟨#[]⟩,.string ⟨#[]⟩] (0,0) _ rfl HS2.out Tryz.underlying23 rfl (by kernel_rfl)) rfl ?_
  exact ⟨rfl,HBF.out⟩
 ·have h6I:¬ (600:Int)<((T A).size:Int):=by omega
  have h7I:(600:Int)<((T B).size:Int):=by omega
  have cB0:=(zag hbk2 0).trans (show _=some (Value.string ⟨#[]⟩) from rfl)
  have cB1:=(zag hbk2 1).trans (show _=some (Value.string ⟨#[]⟩) from rfl)
  have fB0:=zae hbk2 0
  have fB1:=zae hbk2 1
  have hs1:=zax hbk2 0 (.string ⟨#[]⟩)
  have hs2:=zax hs1 1 (.string ⟨#[]⟩)
  have HS2:=Lib.hid (hs2.trans (show _=some (Obj.cells #[.string ⟨#[]⟩,.string ⟨#[]⟩] 23 (0,0)) from rfl))
  have HBF:=Lib.hid (zaf (zaf (g:=B0) (j:=0) (v:=.string ⟨#[]⟩) hB2 HBE.out) (j:=1) (v:=.string ⟨#[]⟩) (g:=B0) HBE.out)
  clear hs1 hs2 hbk2
  go_wp2
  refine bodyPost_ret (za6 rfl _ _ B0 23 #[.string ⟨#[]⟩,.string ⟨#[]⟩] (0,0) _ rfl HS2.out Tryz.underlying23 rfl (by kernel_rfl)) rfl ?_
  exact ⟨rfl,HBF.out⟩
theorem parse_frac (s:ByteArray) (w:World) (hs:s.size≤65536) (f:Fm) (hf:formF s=f) (hg:Gd s f) (he:f.end_ s=true) (hfr:f.fraction=true) (hB:dval f.den.data.toList≠0) (hl:¬ (600<(T (dval f.m.data.toList)).size∨600<(T (dval f.den.data.toList)).size)) :
  Calls Tryz.prog 59 #[.string s] w fun e w'=>e = .returned (.tuple #[.agg #[.string ((toldR (signed f (Rat.divInt (dval f.m.data.toList) (dval f.den.data.toList)))).1,(toldR (signed f (Rat.divInt (dval f.m.data.toList) (dval f.den.data.toList)))).2.1,(toldR (signed f (Rat.divInt (dval f.m.data.toList) (dval f.den.data.toList)))).2.2,(0:Int)).1,.string ((toldR (signed f (Rat.divInt (dval f.m.data.toList) (dval f.den.data.toList)))).1,(toldR (signed f (Rat.divInt (dval f.m.data.toList) (dval f.den.data.toList)))).2.1,(toldR (signed f (Rat.divInt (dval f.m.data.toList) (dval f.den.data.toList)))).2.2,(0:Int)).2.1],.int .i64 ((toldR (signed f (Rat.divInt (dval f.m.data.toList) (dval f.den.data.toList)))).1,(toldR (signed f (Rat.divInt (dval f.m.data.toList) (dval f.den.data.toList)))).2.1,(toldR (signed f (Rat.divInt (dval f.m.data.toList) (dval f.den.data.toList)))).2.2,(0:Int)).2.2.1,.int .i64 ((toldR (signed f (Rat.divInt (dval f.m.data.toList) (dval f.den.data.toList)))).1,(toldR (signed f (Rat.divInt (dval f.m.data.toList) (dval f.den.data.toList)))).2.1,(toldR (signed f (Rat.divInt (dval f.m.data.toList) (dval f.den.data.toList)))).2.2,(0:Int)).2.2.2])∧Below w.heap.size w w':=by
 have hba:=zaa (Below.refl w.heap.size w) (.cells #[.string ⟨#[]⟩,.string ⟨#[]⟩] 23)
 have hbk:=zaO w (.cells #[.string ⟨#[]⟩,.string ⟨#[]⟩] 23)
 have HF:∀ W,Calls Tryz.prog 143 #[.string s] W fun e w'=>∃ g,e = .returned (.tuple #[.pointer (some ⟨g,0,none⟩),.bool (f.end_ s)])∧FSt W w' g s f:=fun W=>by
  subst hf
  exact zbP s W hs
 have hsI:¬ (65536:Int)<(s.size:Int):=by omega
 rw [he] at HF
 have HM:=fun W=>(zaQ f.m W hg.m).mono (fun e w' ⟨h1,h2⟩=>(⟨h1,h2.symm⟩:_∧w'=W))
 have HD:=fun W=>(zaQ f.den W hg.d).mono (fun e w' ⟨h1,h2⟩=>(⟨h1,h2.symm⟩:_∧w'=W))
 clear hf he hg
 generalize dval f.m.data.toList=A at *
 generalize dval f.den.data.toList=B at *
 go_enter Tryz.func59,Tryz.ntmps59
 go_wp2_with fail
 generalize w.alloc (.cells #[.string ⟨#[]⟩,.string ⟨#[]⟩] 23)=W0 at *
 generalize hBe:w.heap.size=B0 at hbk ⊢
 have HBE:=Lib.hid (show w.heap.size≤B0 by omega)
 clear hBe
 refine (HF _).mono ?_
 rintro e w1 ⟨g,rfl,h1⟩
 have hB1:=bthen hba h1.below
 have hbk1:=(h1.below.block _ (zaq hbk)).trans hbk
 have hgB:B0<g:=Nat.lt_of_lt_of_le (zaq hbk) h1.ge
 clear HF hba hbk
 have c9:=h1.c 9 (.bool f.fraction) rfl
 rw [hfr] at c9
 have c4:=h1.c 4 (.string f.m) rfl
 have c8:=h1.c 8 (.string f.den) rfl
 have H1:=Lib.hid h1
 have HFR:=Lib.hid hfr
 clear h1 hfr
 go_wp2_with fail
 go_quiet ((first|(go_at_call 144; exact Calls.quiet_of_same (HM _))|(go_at_call 144; exact Calls.quiet_of_same (HD _))))
 generalize hqd:w1.drewN _=w2
 have hbd:Below w1.heap.size w1 w2:=by subst hqd; exact zap _ _
 have h2:FSt W0 w2 g s f:=by subst hqd; exact H1.out.drewN _
 have hB2:=bthen hB1 hbd
 have hbk2:=(hbd.block _ (zaq hbk1)).trans hbk1
 clear hqd hbd hB1 hbk1 HM HD H1 c4 c8 c9
 have hz:=t0_ne hB
 have h6:(T A).size≤600:=by omega
 have h7:(T B).size≤600:=by omega
 have h6I:¬ (600:Int)<((T A).size:Int):=by omega
 have h7I:¬ (600:Int)<((T B).size:Int):=by omega
 have HBA:=Lib.hid (bd600 ((zas (by decide)).1 h6))
 have HBB:=Lib.hid (bd600 ((zas (by decide)).1 h7))
 have hu105:=Tryz.underlying105
 have hu112:=Tryz.underlying112
 have hnew:=RatAt.new w2 112 (by decide)
 have hbz:=zaa (Below.refl w2.heap.size w2) (.cells #[.bool false,.slice none 0 0,.bool false,.slice none 0 0] 112)
 have hgl:=zaq h2.blk
 have hBz:B0<w2.heap.size:=zaq hbk2
 have hwz:w.heap.size≤w2.heap.size:=hB2.size
 clear hl
 go_wp2_with fail
 refine (zbj A _ (show _≤_ by omega)).mono ?_
 rintro e w3 ⟨D,rfl,hD,ha3,hb3⟩
 go_wp2_with fail
 refine (zbj B _ (show _≤_ by omega)).mono ?_
 rintro e w4 ⟨D2,rfl,hD2,hb4n,hb4⟩
 have hsz:=hbz.size
 have hsz3:=hb3.size
 have hl3:=ha3.lt
 go_wp2_with fail
 refine (zbe w2.heap.size D 0 D2 0 (A:Int) (B:Int) _ ((hnew.slot.below hb3).below hb4) (ha3.below hb4) hb4n (by omega) HBA.out HBB.out (by unfold big; omega)).mono ?_
 rintro e w5 ⟨rfl,hx5,hu5⟩
 have hbq:=bthen hbz (bthen hb3 hb4)
 have hB5:=hu5.new (bthen hB2 hbq) hwz
 have hbk5:=(hu5.other _ (zaq ((hbq.block _ (zaq hbk2)).trans hbk2)) (by omega)).trans ((hbq.block _ (zaq hbk2)).trans hbk2)
 have hbg:=(hu5.other _ (zaq ((hbq.block _ (zaq h2.blk)).trans h2.blk)) (by omega)).trans ((hbq.block _ (zaq h2.blk)).trans h2.blk)
 have c3:=(zag hbg 3).trans (show _=some (Value.bool f.neg) from rfl)
 have HBX:=Lib.hid (Bdr.divInt (show (B:Int)≠0 by omega) HBA.out HBB.out)
 have HZ:=Lib.hid hwz
 have HZB:=Lib.hid hBz
 clear hnew hbz h2 ha3 hb3 hb4n hb4 hu5 hbq hbg hB2 hbk2
 cases hng:f.neg
 ·rw [hng] at c3
  have HV:=Lib.hid (show signed f (Rat.divInt (A:Int) (B:Int))=Rat.divInt (A:Int) (B:Int) by unfold signed; rw [hng]; rfl)
  clear hng
  go_wp2_with fail
  refine (zcP w2.heap.size (Rat.divInt (A:Int) (B:Int)) _ hx5 HBX.out (by unfold big; omega)).mono ?_
  rintro e wt ⟨rfl,hbt⟩
  have hBt:=bthen hB5 hbt
  have hbkt:=(hbt.block _ (zaq hbk5)).trans hbk5
  clear hx5 hB5 hbk5 hbt
  clear c3
  generalize htt:toldR (Rat.divInt (A:Int) (B:Int))=tt
  have HTT:=Lib.hid (show toldR (signed f (Rat.divInt (A:Int) (B:Int)))=tt by rw [HV.out]; exact htt)
  clear htt HV
  have hbr:=zaa (Below.refl wt.heap.size wt) (.cells #[.string tt.1,.string tt.2.1] 23)
  have hBr:=bthen hBt hbr
  have hbkr:=(hbr.block _ (zaq hbkt)).trans hbkt
  have hkr:=zaO wt (.cells #[.string tt.1,.string tt.2.1] 23)
  have hne:wt.heap.size≠B0:=by have:=zaq hbkt; omega
  clear hBt hbkt hbr hkr hne
  have cB0:=(zag hbkr 0).trans (show _=some (Value.string ⟨#[]⟩) from rfl)
  have cB1:=(zag hbkr 1).trans (show _=some (Value.string ⟨#[]⟩) from rfl)
  have fB0:=zae hbkr 0
  have fB1:=zae hbkr 1
  have hs1:=zax hbkr 0 (.string tt.1)
  have hs2:=zax hs1 1 (.string tt.2.1)
  have HS2:=Lib.hid (hs2.trans (show _=some (Obj.cells #[.string tt.1,.string tt.2.1] 23 (0,0)) from rfl))
  have HBF:=Lib.hid (zaf (zaf (g:=B0) (j:=0) (v:=.string tt.1) hBr HBE.out) (j:=1) (v:=.string tt.2.1) (g:=B0) HBE.out)
  clear hs1 hs2 hbkr
  go_wp2
  refine bodyPost_ret (za6 rfl _ _ B0 23 #[.string tt.1,.string tt.2.1] (0,0) _ rfl HS2.out Tryz.underlying23 rfl (by kernel_rfl)) rfl ?_
  exact ⟨by rw [HTT.out]; rfl,HBF.out⟩
 ·rw [hng] at c3
  have HV:=Lib.hid (show signed f (Rat.divInt (A:Int) (B:Int)) = -(Rat.divInt (A:Int) (B:Int)) by unfold signed; rw [hng]; rfl)
  clear hng
  go_wp2_with fail
  refine (rneg_calls w2.heap.size w2.heap.size (Rat.divInt (A:Int) (B:Int)) _ hx5.slot hx5 HBX.out (by unfold big; omega)).mono ?_
  rintro e wn ⟨rfl,hxn,hun⟩
  have hBn:=hun.new hB5 HZ.out
  have hbkn:=(hun.other _ (zaq hbk5) (by have:=HZB.out; omega)).trans hbk5
  have hbn:=Lib.hid (HBX.out.neg)
  clear hx5 hB5 hbk5 hun c3
  go_wp2_with fail
  refine (zcP w2.heap.size (-(Rat.divInt (A:Int) (B:Int))) _ hxn hbn.out (by unfold big; omega)).mono ?_
  rintro e wt ⟨rfl,hbt⟩
  have hBt:=bthen hBn hbt
  have hbkt:=(hbt.block _ (zaq hbkn)).trans hbkn
  clear hxn hBn hbkn hbt
  generalize htt:toldR (-(Rat.divInt (A:Int) (B:Int)))=tt
  have HTT:=Lib.hid (show toldR (signed f (Rat.divInt (A:Int) (B:Int)))=tt by rw [HV.out]; exact htt)
  clear htt HV
  have hbr:=zaa (Below.refl wt.heap.size wt) (.cells #[.string tt.1,.string tt.2.1] 23)
  have hBr:=bthen hBt hbr
  have hbkr:=(hbr.block _ (zaq hbkt)).trans hbkt
  have hkr:=zaO wt (.cells #[.string tt.1,.string tt.2.1] 23)
  have hne:wt.heap.size≠B0:=by have:=zaq hbkt; omega
  clear hBt hbkt hbr hkr hne
  have cB0:=(zag hbkr 0).trans (show _=some (Value.string ⟨#[]⟩) from rfl)
  have cB1:=(zag hbkr 1).trans (show _=some (Value.string ⟨#[]⟩) from rfl)
  have fB0:=zae hbkr 0
  have fB1:=zae hbkr 1
  have hs1:=zax hbkr 0 (.string tt.1)
  have hs2:=zax hs1 1 (.string tt.2.1)
  have HS2:=Lib.hid (hs2.trans (show _=some (Obj.cells #[.string tt.1,.string tt.2.1] 23 (0,0)) from rfl))
  have HBF:=Lib.hid (zaf (zaf (g:=B0) (j:=0) (v:=.string tt.1) hBr HBE.out) (j:=1) (v:=.string tt.2.1) (g:=B0) HBE.out)
  clear hs1 hs2 hbkr
  go_wp2
  refine bodyPost_ret (za6 rfl _ _ B0 23 #[.string tt.1,.string tt.2.1] (0,0) _ rfl HS2.out Tryz.underlying23 rfl (by kernel_rfl)) rfl ?_
  exact ⟨by rw [HTT.out]; rfl,HBF.out⟩
theorem parse_dlarge (s:ByteArray) (w:World) (hs:s.size≤65536) (f:Fm) (hf:formF s=f) (hg:Gd s f) (he:f.end_ s=true) (hfr:f.fraction=false) (hd:decF f=none) :
  Calls Tryz.prog 59 #[.string s] w fun e w'=>e = .returned (.tuple #[.agg #[.string ((⟨#[]⟩,⟨#[]⟩,7,0):ByteArray×ByteArray×Int×Int).1,.string ((⟨#[]⟩,⟨#[]⟩,7,0):ByteArray×ByteArray×Int×Int).2.1],.int .i64 ((⟨#[]⟩,⟨#[]⟩,7,0):ByteArray×ByteArray×Int×Int).2.2.1,.int .i64 ((⟨#[]⟩,⟨#[]⟩,7,0):ByteArray×ByteArray×Int×Int).2.2.2])∧Below w.heap.size w w':=by
 have hba:=zaa (Below.refl w.heap.size w) (.cells #[.string ⟨#[]⟩,.string ⟨#[]⟩] 23)
 have hbk:=zaO w (.cells #[.string ⟨#[]⟩,.string ⟨#[]⟩] 23)
 have HF:∀ W,Calls Tryz.prog 143 #[.string s] W fun e w'=>∃ g,e = .returned (.tuple #[.pointer (some ⟨g,0,none⟩),.bool (f.end_ s)])∧FSt W w' g s f:=fun W=>by
  subst hf
  exact zbP s W hs
 have hsI:¬ (65536:Int)<(s.size:Int):=by omega
 rw [he] at HF
 have HDC:=fun (W W':World) (g:Nat) (h:FSt W W' g s f)=>zdB W W' g s f h hg.m (by have:=hg.mz; omega) hg.x (by have:=hg.xz; omega) (by have:=hg.bh; omega)
 clear hf he hg
 go_enter Tryz.func59,Tryz.ntmps59
 go_wp2_with fail
 generalize w.alloc (.cells #[.string ⟨#[]⟩,.string ⟨#[]⟩] 23)=W0 at *
 generalize hBe:w.heap.size=B0 at hbk ⊢
 have HBE:=Lib.hid (show w.heap.size≤B0 by omega)
 clear hBe
 refine (HF _).mono ?_
 rintro e w1 ⟨g,rfl,h1⟩
 have hB1:=bthen hba h1.below
 have hbk1:=(h1.below.block _ (zaq hbk)).trans hbk
 have hgB:B0<g:=Nat.lt_of_lt_of_le (zaq hbk) h1.ge
 clear HF hba hbk
 have c9:=h1.c 9 (.bool f.fraction) rfl
 rw [hfr] at c9
 have c3a:=h1.c 3 (.bool f.neg) rfl
 have HDC1:=Lib.hid (HDC _ _ _ h1)
 have hgl:=zaq h1.blk
 have hbg:=h1.blk
 clear h1 hfr HDC
 go_wp2_with fail
 refine HDC1.out.mono ?_
 rw [hd]
 rintro e w2 ⟨rfl,hb2⟩
 have hB2:=bthen hB1 hb2
 have hbk2:=(hb2.block _ (zaq hbk1)).trans hbk1
 clear hB1 hbk1 hb2 hbg c3a c9 HDC1
 have cB0:=(zag hbk2 0).trans (show _=some (Value.string ⟨#[]⟩) from rfl)
 have cB1:=(zag hbk2 1).trans (show _=some (Value.string ⟨#[]⟩) from rfl)
 have fB0:=zae hbk2 0
 have fB1:=zae hbk2 1
 have hs1:=zax hbk2 0 (.string ⟨#[]⟩)
 have hs2:=zax hs1 1 (.string ⟨#[]⟩)
 have HS2:=Lib.hid (hs2.trans (show _=some (Obj.cells #[.string ⟨#[]⟩,.string ⟨#[]⟩] 23 (0,0)) from rfl))
 have HBF:=Lib.hid (zaf (zaf (g:=B0) (j:=0) (v:=.string ⟨#[]⟩) hB2 HBE.out) (j:=1) (v:=.string ⟨#[]⟩) (g:=B0) HBE.out)
 clear hs1 hs2 hbk2
 go_wp2
 refine bodyPost_ret (za6 rfl _ _ B0 23 #[.string ⟨#[]⟩,.string ⟨#[]⟩] (0,0) _ rfl HS2.out Tryz.underlying23 rfl (by kernel_rfl)) rfl ?_
 exact ⟨rfl,HBF.out⟩
theorem parse_dec (s:ByteArray) (w:World) (hs:s.size≤65536) (f:Fm) (hf:formF s=f) (hg:Gd s f) (he:f.end_ s=true) (hfr:f.fraction=false) (x:Rat) (hd:decF f=some x) :
  Calls Tryz.prog 59 #[.string s] w fun e w'=>e = .returned (.tuple #[.agg #[.string ((toldR (signed f x)).1,(toldR (signed f x)).2.1,(toldR (signed f x)).2.2,(0:Int)).1,.string ((toldR (signed f x)).1,(toldR (signed f x)).2.1,(toldR (signed f x)).2.2,(0:Int)).2.1],.int .i64 ((toldR (signed f x)).1,(toldR (signed f x)).2.1,(toldR (signed f x)).2.2,(0:Int)).2.2.1,.int .i64 ((toldR (signed f x)).1,(toldR (signed f x)).2.1,(toldR (signed f x)).2.2,(0:Int)).2.2.2])∧Below w.heap.size w w':=by
 have hba:=zaa (Below.refl w.heap.size w) (.cells #[.string ⟨#[]⟩,.string ⟨#[]⟩] 23)
 have hbk:=zaO w (.cells #[.string ⟨#[]⟩,.string ⟨#[]⟩] 23)
 have HF:∀ W,Calls Tryz.prog 143 #[.string s] W fun e w'=>∃ g,e = .returned (.tuple #[.pointer (some ⟨g,0,none⟩),.bool (f.end_ s)])∧FSt W w' g s f:=fun W=>by
  subst hf
  exact zbP s W hs
 have hsI:¬ (65536:Int)<(s.size:Int):=by omega
 rw [he] at HF
 have HDC:=fun (W W':World) (g:Nat) (h:FSt W W' g s f)=>zdB W W' g s f h hg.m (by have:=hg.mz; omega) hg.x (by have:=hg.xz; omega) (by have:=hg.bh; omega)
 clear hf he hg
 go_enter Tryz.func59,Tryz.ntmps59
 go_wp2_with fail
 generalize w.alloc (.cells #[.string ⟨#[]⟩,.string ⟨#[]⟩] 23)=W0 at *
 generalize hBe:w.heap.size=B0 at hbk ⊢
 have HBE:=Lib.hid (show w.heap.size≤B0 by omega)
 clear hBe
 refine (HF _).mono ?_
 rintro e w1 ⟨g,rfl,h1⟩
 have hB1:=bthen hba h1.below
 have hbk1:=(h1.below.block _ (zaq hbk)).trans hbk
 have hgB:B0<g:=Nat.lt_of_lt_of_le (zaq hbk) h1.ge
 clear HF hba hbk
 have c9:=h1.c 9 (.bool f.fraction) rfl
 rw [hfr] at c9
 have c3a:=h1.c 3 (.bool f.neg) rfl
 have HDC1:=Lib.hid (HDC _ _ _ h1)
 have hgl:=zaq h1.blk
 have hbg:=h1.blk
 clear h1 hfr HDC
 go_wp2_with fail
 refine HDC1.out.mono ?_
 rw [hd]
 rintro e w2 ⟨z,rfl,hz,hx2,hbd,hb2⟩
 have hB2:=bthen hB1 hb2
 have hbk2:=(hb2.block _ (zaq hbk1)).trans hbk1
 have c3:=(zag ((hb2.block _ hgl).trans hbg) 3).trans (show _=some (Value.bool f.neg) from rfl)
 have hB1s:=hB1.size
 have HBX:=Lib.hid hbd
 have HZ:=Lib.hid (show w.heap.size≤z by omega)
 have HZB:=Lib.hid (show B0<z by have:=zaq hbk1; omega)
 have hu112:=Tryz.underlying112
 clear hB1 hbk1 hb2 hbg c3a c9 HDC1 hbd hB1s hd
 cases hng:f.neg
 ·rw [hng] at c3
  have HV:=Lib.hid (show signed f (x)=x by unfold signed; rw [hng]; rfl)
  clear hng
  go_wp2_with fail
  refine (zcP z (x) _ hx2 HBX.out (by unfold big; omega)).mono ?_
  rintro e wt ⟨rfl,hbt⟩
  have hBt:=bthen hB2 hbt
  have hbkt:=(hbt.block _ (zaq hbk2)).trans hbk2
  clear hx2 hB2 hbk2 hbt
  clear c3
  generalize htt:toldR (x)=tt
  have HTT:=Lib.hid (show toldR (signed f (x))=tt by rw [HV.out]; exact htt)
  clear htt HV
  have hbr:=zaa (Below.refl wt.heap.size wt) (.cells #[.string tt.1,.string tt.2.1] 23)
  have hBr:=bthen hBt hbr
  have hbkr:=(hbr.block _ (zaq hbkt)).trans hbkt
  have hkr:=zaO wt (.cells #[.string tt.1,.string tt.2.1] 23)
  have hne:wt.heap.size≠B0:=by have:=zaq hbkt; omega
  clear hBt hbkt hbr hkr hne
  have cB0:=(zag hbkr 0).trans (show _=some (Value.string ⟨#[]⟩) from rfl)
  have cB1:=(zag hbkr 1).trans (show _=some (Value.string ⟨#[]⟩) from rfl)
  have fB0:=zae hbkr 0
  have fB1:=zae hbkr 1
  have hs1:=zax hbkr 0 (.string tt.1)
  have hs2:=zax hs1 1 (.string tt.2.1)
  have HS2:=Lib.hid (hs2.trans (show _=some (Obj.cells #[.string tt.1,.string tt.2.1] 23 (0,0)) from rfl))
  have HBF:=Lib.hid (zaf (zaf (g:=B0) (j:=0) (v:=.string tt.1) hBr HBE.out) (j:=1) (v:=.string tt.2.1) (g:=B0) HBE.out)
  clear hs1 hs2 hbkr
  go_wp2
  refine bodyPost_ret (za6 rfl _ _ B0 23 #[.string tt.1,.string tt.2.1] (0,0) _ rfl HS2.out Tryz.underlying23 rfl (by kernel_rfl)) rfl ?_
  exact ⟨by rw [HTT.out]; rfl,HBF.out⟩
 ·rw [hng] at c3
  have HV:=Lib.hid (show signed f (x) = -(x) by unfold signed; rw [hng]; rfl)
  clear hng
  go_wp2_with fail
  refine (rneg_calls z z (x) _ hx2.slot hx2 HBX.out (by unfold big; omega)).mono ?_
  rintro e wn ⟨rfl,hxn,hun⟩
  have hBn:=hun.new hB2 HZ.out
  have hbkn:=(hun.other _ (zaq hbk2) (by have:=HZB.out; omega)).trans hbk2
  have hbn:=Lib.hid (HBX.out.neg)
  clear hx2 hB2 hbk2 hun c3
  go_wp2_with fail
  refine (zcP z (-(x)) _ hxn hbn.out (by unfold big; omega)).mono ?_
  rintro e wt ⟨rfl,hbt⟩
  have hBt:=bthen hBn hbt
  have hbkt:=(hbt.block _ (zaq hbkn)).trans hbkn
  clear hxn hBn hbkn hbt
  generalize htt:toldR (-(x))=tt
  have HTT:=Lib.hid (show toldR (signed f (x))=tt by rw [HV.out]; exact htt)
  clear htt HV
  have hbr:=zaa (Below.refl wt.heap.size wt) (.cells #[.string tt.1,.string tt.2.1] 23)
  have hBr:=bthen hBt hbr
  have hbkr:=(hbr.block _ (zaq hbkt)).trans hbkt
  have hkr:=zaO wt (.cells #[.string tt.1,.string tt.2.1] 23)
  have hne:wt.heap.size≠B0:=by have:=zaq hbkt; omega
  clear hBt hbkt hbr hkr hne
  have cB0:=(zag hbkr 0).trans (show _=some (Value.string ⟨#[]⟩) from rfl)
  have cB1:=(zag hbkr 1).trans (show _=some (Value.string ⟨#[]⟩) from rfl)
  have fB0:=zae hbkr 0
  have fB1:=zae hbkr 1
  have hs1:=zax hbkr 0 (.string tt.1)
  have hs2:=zax hs1 1 (.string tt.2.1)
  have HS2:=Lib.hid (hs2.trans (show _=some (Obj.cells #[.string tt.1,.string tt.2.1] 23 (0,0)) from rfl))
  have HBF:=Lib.hid (zaf (zaf (g:=B0) (j:=0) (v:=.string tt.1) hBr HBE.out) (j:=1) (v:=.string tt.2.1) (g:=B0) HBE.out)
  clear hs1 hs2 hbkr
  go_wp2
  refine bodyPost_ret (za6 rfl _ _ B0 23 #[.string tt.1,.string tt.2.1] (0,0) _ rfl HS2.out Tryz.underlying23 rfl (by kernel_rfl)) rfl ?_
  exact ⟨by rw [HTT.out]; rfl,HBF.out⟩
noncomputable def rat_Parse.f (a0:ByteArray):Option (ByteArray×ByteArray×Int×Int):=some (parseF a0)
theorem parse_walk (s:ByteArray) (w:World) :
  Calls Tryz.prog 59 #[.string s] w fun e w'=>e = .returned (.tuple #[.agg #[.string (parseF s).1,.string (parseF s).2.1],.int .i64 (parseF s).2.2.1,.int .i64 (parseF s).2.2.2])∧Below w.heap.size w w':=by
 by_cases hs:65536<s.size
 ·rw [show parseF s=_ from if_pos hs]; exact parse_size s w hs
 ·have hs':s.size≤65536:=by omega
  have hg:=formF_ok s
  obtain ⟨f,hf⟩:∃ f,formF s=f:=⟨_,rfl⟩
  rw [hf] at hg
  unfold parseF
  rw [if_neg hs,hf]
  cases he:f.end_ s
  ·rw [if_pos rfl]; exact parse_form s w hs' f hf he
  ·rw [if_neg (by decide)]
   cases hfr:f.fraction
   ·rw [if_neg (by decide)]
    cases hd:decF f with
    | none=>exact parse_dlarge s w hs' f hf hg he hfr hd
    | some x=>exact parse_dec s w hs' f hf hg he hfr x hd
   ·rw [if_pos rfl]
    by_cases hB:dval f.den.data.toList=0
    ·rw [if_pos hB]; exact parse_zero s w hs' f hf hg he hfr hB
    ·rw [if_neg hB]
     by_cases hl:600<(T (dval f.m.data.toList)).size∨600<(T (dval f.den.data.toList)).size
     ·rw [show fracF f=none from if_pos hl]; exact parse_large s w hs' f hf hg he hfr hB hl
     ·rw [show fracF f=some _ from if_neg hl]; exact parse_frac s w hs' f hf hg he hfr hB hl
theorem rat_Parse.calls (a0:ByteArray) (r1 r2:ByteArray) (r3 r4:Int) (w:World) (h:rat_Parse.f a0=some (r1,r2,r3,r4)) :
  Calls Tryz.prog 59 #[.string a0] w fun e w'=>e = .returned (.tuple #[.agg #[.string r1,.string r2],.int .i64 r3,.int .i64 r4])∧Below w.heap.size w w':=by
 have h:=Option.some.inj h
 have:=parse_walk a0 w
 rw [h] at this
 exact this
theorem isD_of {l:List UInt8} (h:Dig l):∀ c∈l,isD c=true:=fun c hc=>by
 have:=h c hc
 unfold isD; rw [decide_eq_true this.1,decide_eq_true this.2]; rfl
theorem takeWhile_seg {p:UInt8→Bool} {D B:List UInt8} (hD:∀ c∈D,p c=true) (hB:∀ c,B.head? = some c→p c=false):(D++B).takeWhile p=D:=by
 rw [List.takeWhile_append_of_pos hD]
 cases B with
 | nil=>simp
 | cons c t=>rw [List.takeWhile_cons,if_neg (by rw [hB c rfl]; decide),List.append_nil]
theorem runN_seg {A D B:List UInt8} (hD:∀ c∈D,isD c=true) (hB:∀ c,B.head? = some c→isD c=false):ZP.runN (A++(D++B)) A.length=A.length+D.length:=by
 unfold ZP.runN
 rw [List.drop_left,takeWhile_seg hD hB]
theorem dig_seg {s:ByteArray} {f:Fm} {A D B:List UInt8} (hs:s.data.toList=A++(D++B)) (ha:f.at_=A.length) (hb:f.bad=false) (hD:∀ c∈D,isD c=true) (hn:0<D.length) (hB:∀ c,B.head? = some c→isD c=false) :
  f.dig s = { f with at_:=A.length+D.length,bad:=false }∧(f.digT s).data.toList=D:=by
 have hr:ZP.runN s.data.toList f.at_=A.length+D.length:=by rw [hs,ha]; exact runN_seg hD hB
 refine ⟨?_,?_⟩
 ·unfold Fm.dig
  rw [hr,hb,decide_eq_false (by omega)]; rfl
 ·unfold Fm.digT
  rw [hr,ha]
  have e:(s.extract A.length (A.length+D.length)).data.toList=(s.data.toList.drop A.length).take D.length:=by
   simp [ByteArray.data_extract,Array.toList_extract]
  rw [e,hs,List.drop_left,List.take_left]
theorem sg_yes {s set:ByteArray} {f:Fm} {A B:List UInt8} {c:UInt8} (hs:s.data.toList=A++c :: B) (ha:f.at_=A.length) (hb:f.bad=false) (hc:c∈set.data.toList):f.sgV s set=(c.toNat:Int)∧f.sgn s set = { f with at_:=A.length+1 }:=by
 have hl:s.size=A.length+(B.length+1):=by rw [←zak,hs,List.length_append,List.length_cons]
 have hg:s.data.toList.getD f.at_ 0=c:=by rw [hs,ha]; simp
 have h:f.sgB s set=true:=by
  unfold Fm.sgB
  rw [hb,hg,decide_eq_true (by omega),decide_eq_true hc]; rfl
 unfold Fm.sgV Fm.sgn
 rw [if_pos h,if_pos h,hg,ha]
 exact ⟨rfl,rfl⟩
theorem sg_no {s set:ByteArray} {f:Fm} {A B:List UInt8} (hs:s.data.toList=A++B) (ha:f.at_=A.length) (hc:∀ c,B.head? = some c→¬ c∈set.data.toList):f.sgV s set=0∧f.sgn s set=f:=by
 have hl:s.size=A.length+B.length:=by rw [←zak,hs,List.length_append]
 have h:f.sgB s set=false:=by
  unfold Fm.sgB
  cases B with
  | nil=>rw [decide_eq_false (show ¬ f.at_<s.size by simp at hl; omega),Bool.and_false,Bool.false_and]
  | cons c t =>
   have hg:s.data.toList.getD f.at_ 0=c:=by rw [hs,ha]; simp
   rw [hg,decide_eq_false (hc c rfl),Bool.and_false]
 unfold Fm.sgV Fm.sgn
 rw [h]
 exact ⟨rfl,rfl⟩
def sgL (n:Bool):List UInt8:=if n then [45] else []
theorem zdy {s:ByteArray} {n:Bool} {D B:List UInt8} (hs:s.data.toList=sgL n++(D++B)) (hD:∀ c∈D,isD c=true) (hn:0<D.length) (hB:∀ c,B.head? = some c→isD c=false) :
  ∃ m:ByteArray,m.data.toList=D∧form1 s = { F0 with at_:=(sgL n).length+D.length,neg:=n,m:=m }:=by
 have h:F0.sgV s cM=(if n then 45 else 0)∧F0.sgn s cM = { F0 with at_:=(sgL n).length }:=by
  cases n
  ·have hs':s.data.toList = []++(D++B):=hs
   refine ⟨(sg_no (f:=F0) hs' rfl ?_).1,(sg_no (f:=F0) hs' rfl ?_).2⟩ <;>
   ·intro c hc
    cases D with
    | nil=>simp at hn
    | cons d t =>
     simp at hc
     subst hc
     have:=hD d (by simp)
     intro e
     have e2:d=45:=by simpa [cM] using e
     subst e2
     revert this; decide
  ·have hs':s.data.toList = []++45 :: (D++B):=hs
   have:=sg_yes (f:=F0) (set:=cM) hs' rfl rfl (by decide)
   exact ⟨this.1,this.2⟩
 have hd:=dig_seg (f:={ F0 with at_:=(sgL n).length,neg:=n }) hs rfl rfl hD hn hB
 refine ⟨_,hd.2,?_⟩
 unfold form1
 rw [h.1,h.2]
 have e:((if n=true then (45:Int) else 0) != 0)=n:=by cases n<;>rfl
 show ({ (({ F0 with at_:=(sgL n).length,neg:=((if n=true then (45:Int) else 0) != 0) }:Fm).dig s) with m:=({ F0 with at_:=(sgL n).length,neg:=((if n=true then (45:Int) else 0) != 0) }:Fm).digT s }:Fm)=_
 rw [e,hd.1]
 rfl
theorem form_int {s:ByteArray} {n:Bool} {D:List UInt8} (hs:s.data.toList=sgL n++D) (hD:∀ c∈D,isD c=true) (hn:0<D.length) :
  ∃ m:ByteArray,m.data.toList=D∧formF s = { F0 with at_:=(sgL n).length+D.length,neg:=n,m:=m }:=by
 obtain ⟨m,hm,h1⟩:=zdy (s:=s) (n:=n) (D:=D) (B:=[]) (by rw [List.append_nil]; exact hs) hD hn (by simp)
 refine ⟨m,hm,?_⟩
 have hs2:s.data.toList=(sgL n++D) ++ []:=by rw [List.append_nil]; exact hs
 have ha:(form1 s).at_=(sgL n++D).length:=by rw [h1,List.length_append]
 have no:=fun set=>sg_no (f:=form1 s) (set:=set) hs2 ha (by simp)
 unfold formF
 rw [if_pos (no cS).1,(no cS).2]
 have hp:formP s (form1 s)=form1 s:=by unfold formP; rw [if_pos (no cP).1,(no cP).2]
 rw [hp]
 unfold formE
 rw [if_pos (no cE).1,(no cE).2,h1]
theorem form_frac {s:ByteArray} {n:Bool} {D E:List UInt8} (hs:s.data.toList=sgL n++(D++47 :: E)) (hD:∀ c∈D,isD c=true) (hn:0<D.length) (hE:∀ c∈E,isD c=true) (he:0<E.length) :
  ∃ m d:ByteArray,m.data.toList=D∧d.data.toList=E∧formF s = { F0 with at_:=(sgL n).length+D.length+1+E.length,neg:=n,m:=m,den:=d,fraction:=true,slash:=(sgL n).length+D.length+1 }:=by
 obtain ⟨m,hm,h1⟩:=zdy (s:=s) (n:=n) (D:=D) (B:=47 :: E) hs hD hn (fun c hc=>by cases hc; decide)
 have hs2:s.data.toList=(sgL n++D)++47 :: E:=by rw [List.append_assoc]; exact hs
 have ha:(form1 s).at_=(sgL n++D).length:=by rw [h1,List.length_append]
 have hy:=sg_yes (f:=form1 s) (set:=cS) hs2 ha (by rw [h1]; rfl) (by decide)
 have hs3:s.data.toList=(sgL n++D ++ [47])++(E ++ []):=by rw [List.append_nil,List.append_assoc,List.append_assoc]; exact hs
 have hd:=dig_seg (f:={ F0 with at_:=(sgL n++D).length+1,neg:=n,m:=m,fraction:=true,slash:=(sgL n++D).length+1 }) hs3 (by show (sgL n++D).length+1=_; simp only [List.length_append,List.length_cons,List.length_nil]) rfl hE he (by simp)
 refine ⟨m,_,hm,hd.2,?_⟩
 unfold formF
 rw [if_neg (by rw [hy.1]; decide)]
 unfold formS
 rw [hy.2]
 show ({ (({ (form1 s) with at_:=(sgL n++D).length+1,fraction:=true,slash:=(sgL n++D).length+1 }:Fm).dig s) with den:=({ (form1 s) with at_:=(sgL n++D).length+1,fraction:=true,slash:=(sgL n++D).length+1 }:Fm).digT s }:Fm)=_
 rw [h1]
 show ({ (({ F0 with at_:=(sgL n++D).length+1,neg:=n,m:=m,fraction:=true,slash:=(sgL n++D).length+1 }:Fm).dig s) with den:=({ F0 with at_:=(sgL n++D).length+1,neg:=n,m:=m,fraction:=true,slash:=(sgL n++D).length+1 }:Fm).digT s }:Fm)=_
 rw [hd.1]
 simp only [List.length_append,List.length_cons,List.length_nil]
 rfl
theorem form_point {s:ByteArray} {n:Bool} {D E:List UInt8} (hs:s.data.toList=sgL n++(D++46 :: E)) (hD:∀ c∈D,isD c=true) (hn:0<D.length) (hE:∀ c∈E,isD c=true) (he:0<E.length) :
  ∃ m:ByteArray,m.data.toList=D++E∧formF s = { F0 with at_:=(sgL n).length+D.length+1+E.length,neg:=n,m:=m,behind:=E.length }:=by
 obtain ⟨m,hm,h1⟩:=zdy (s:=s) (n:=n) (D:=D) (B:=46 :: E) hs hD hn (fun c hc=>by cases hc; decide)
 have hs2:s.data.toList=(sgL n++D)++46 :: E:=by rw [List.append_assoc]; exact hs
 have ha:(form1 s).at_=(sgL n++D).length:=by rw [h1,List.length_append]
 have hno:=sg_no (f:=form1 s) (set:=cS) hs2 ha (fun c hc=>by cases hc; decide)
 have hy:=sg_yes (f:=form1 s) (set:=cP) hs2 ha (by rw [h1]; rfl) (by decide)
 have hs3:s.data.toList=(sgL n++D ++ [46])++(E ++ []):=by rw [List.append_nil,List.append_assoc,List.append_assoc]; exact hs
 have hd:=dig_seg (f:={ F0 with at_:=(sgL n++D).length+1,neg:=n,m:=m }) hs3 (by show (sgL n++D).length+1=_; simp only [List.length_append,List.length_cons,List.length_nil]) rfl hE he (by simp)
 have hsz:(({ F0 with at_:=(sgL n++D).length+1,neg:=n,m:=m }:Fm).digT s).size=E.length:=by rw [←zak,hd.2]
 have hp:formP s (form1 s) = { F0 with at_:=(sgL n++D ++ [46]).length+E.length,neg:=n,m:=m++({ F0 with at_:=(sgL n++D).length+1,neg:=n,m:=m }:Fm).digT s,behind:=E.length }:=by
  unfold formP
  rw [if_neg (by rw [hy.1]; decide),hy.2,h1]
  show ({ (({ F0 with at_:=(sgL n++D).length+1,neg:=n,m:=m }:Fm).dig s) with behind:=(({ F0 with at_:=(sgL n++D).length+1,neg:=n,m:=m }:Fm).digT s).size,m:=m++({ F0 with at_:=(sgL n++D).length+1,neg:=n,m:=m }:Fm).digT s }:Fm)=_
  rw [hd.1,hsz]
  rfl
 refine ⟨m++({ F0 with at_:=(sgL n++D).length+1,neg:=n,m:=m }:Fm).digT s,by rw [ByteArray.data_append,Array.toList_append,hm,hd.2],?_⟩
 unfold formF
 rw [if_pos hno.1,hno.2,hp]
 have hs4:s.data.toList=(sgL n++D ++ [46]++E) ++ []:=by rw [List.append_nil]; rw [List.append_nil] at hs3; exact hs3
 have no:=sg_no (f:={ F0 with at_:=(sgL n++D ++ [46]).length+E.length,neg:=n,m:=m++({ F0 with at_:=(sgL n++D).length+1,neg:=n,m:=m }:Fm).digT s,behind:=E.length }) (set:=cE) hs4 (by show (sgL n++D ++ [46]).length+E.length=_; simp only [List.length_append,List.length_cons,List.length_nil]) (by simp)
 unfold formE
 rw [if_pos no.1,no.2]
 simp only [List.length_append,List.length_cons,List.length_nil]
theorem T_dig (n:Nat):∀ c∈(T n).data.toList,isD c=true:=isD_of (T_can n).2.1
theorem T_len (n:Nat):0<(T n).data.toList.length:=(T_can n).1
theorem wt_list (x:Int):(wtext x).data.toList=sgL (decide (x<0))++(T x.natAbs).data.toList:=by
 by_cases h:x<0
 ·rw [zb9 h,ByteArray.data_append,Array.toList_append,decide_eq_true h]; rfl
 ·rw [zaK (by omega),decide_eq_false h]; rfl
theorem told_of {x:Rat} (hs:Sm x):toldR x=(wtext x.num,T x.den,0):=if_pos hs
theorem rr_bytes {a b:ByteArray} {x:Rat} (h:RR a b x):a.size≤601∧b.size≤600:=by
 have sm:=(zas (k:=600) (by decide)).2 h.ln
 have sn:=(zas (k:=600) (by decide)).2 h.ld
 refine ⟨?_,by rw [h.den]; exact sn⟩
 rw [h.num,←zak,wt_list,List.length_append,zak]
 have:(sgL (decide (x.num<0))).length≤1:=by unfold sgL; split<;>simp
 omega
theorem parse_print {a b:ByteArray} {x:Rat} (h:RR a b x):parseF (if b.toList=([49]:List UInt8) then a else (a++(⟨#[47]⟩:ByteArray))++b)=(a,b,0,0):=by
 have hz:=rr_bytes h
 have hm:=(zas (k:=600) (by decide)).2 h.ln
 have hd:=(zas (k:=600) (by decide)).2 h.ld
 have hden:=x.den_pos
 have hsn:∀ f:Fm,f.neg=decide (x.num<0)→signed f (Rat.divInt (x.num.natAbs:Int) (x.den:Int))=x:=fun f hf=>by
  unfold signed
  rw [hf]
  by_cases hx:x.num<0
  ·rw [decide_eq_true hx]
   show -Rat.divInt (x.num.natAbs:Int) (x.den:Int)=x
   rw [Rat.neg_divInt,show -((x.num.natAbs:Nat):Int)=x.num by omega,Rat.num_divInt_den]
  ·rw [decide_eq_false hx]
   show Rat.divInt (x.num.natAbs:Int) (x.den:Int)=x
   rw [show ((x.num.natAbs:Nat):Int)=x.num by omega,Rat.num_divInt_den]
 have hto:=told_of (x:=x) ⟨h.ln,h.ld⟩
 by_cases h1:b.toList=([49]:List UInt8)
 ·rw [if_pos h1]
  have hb1:x.den=1:=by
   have e:(b.toList == ([49]:List UInt8))=true:=by rw [h1]; rfl
   rw [b49,h.den] at e
   exact T_inj (of_decide_eq_true e)
  obtain ⟨m,hm1,hF⟩:=form_int (s:=a) (n:=decide (x.num<0)) (D:=(T x.num.natAbs).data.toList) (by rw [h.num]; exact wt_list _) (T_dig _) (T_len _)
  have hsz:a.size=(sgL (decide (x.num<0))).length+(T x.num.natAbs).data.toList.length:=by rw [←zak,h.num,wt_list,List.length_append]
  unfold parseF
  rw [if_neg (by omega),hF]
  have hend:({ F0 with at_:=(sgL (decide (x.num<0))).length+(T x.num.natAbs).data.toList.length,neg:=decide (x.num<0),m:=m }:Fm).end_ a=true:=by
   unfold Fm.end_
   exact (Bool.and_eq_true _ _).mpr ⟨rfl,decide_eq_true hsz.symm⟩
  rw [hend,if_neg (by decide),if_neg (by show ¬ false=true; decide)]
  have hdec:decF { F0 with at_:=(sgL (decide (x.num<0))).length+(T x.num.natAbs).data.toList.length,neg:=decide (x.num<0),m:=m }=some (Rat.divInt (x.num.natAbs:Int) (x.den:Int)):=by
   unfold decF expE
   show (if F0.exp.size=0 then some (0:Int) else _).bind _=_
   rw [if_pos (show F0.exp.size=0 from rfl),Option.bind_some]
   show scaleF (dval m.data.toList) (0-(0:Nat))=_
   rw [hm1,za8]
   unfold scaleF
   rw [if_neg (by omega),hb1]
   have e0:tenR (0-((0:Nat):Int))=1:=rfl
   refine congrArg some ?_
   have:=tenR_pos 0
   rw [show (0:Int)-((0:Nat):Int)=((0:Nat):Int) by omega,this]
   show ((x.num.natAbs:Int):Rat)*Rat.divInt 1 1=_
   rw [Rat.divInt_self' (by decide),Rat.mul_one,zcy]; rfl
  rw [hdec]
  show ((toldR (signed _ _)).1,(toldR (signed _ _)).2.1,(toldR (signed _ _)).2.2,(0:Int))=_
  rw [hsn _ rfl,hto,←h.num,←h.den]
 ·rw [if_neg h1]
  have hl:((a++(⟨#[47]⟩:ByteArray))++b).data.toList=sgL (decide (x.num<0))++((T x.num.natAbs).data.toList++47 :: (T x.den).data.toList):=by
   rw [ByteArray.data_append,Array.toList_append,ByteArray.data_append,Array.toList_append,h.num,wt_list,h.den,List.append_assoc,List.append_assoc]; rfl
  obtain ⟨m,d,hm1,hd1,hF⟩:=form_frac hl (T_dig _) (T_len _) (T_dig _) (T_len _)
  have hsz:((a++(⟨#[47]⟩:ByteArray))++b).size=(sgL (decide (x.num<0))).length+(T x.num.natAbs).data.toList.length+1+(T x.den).data.toList.length:=by
   rw [←zak,hl,List.length_append,List.length_append,List.length_cons]; omega
  have hle:(sgL (decide (x.num<0))).length≤1:=by unfold sgL; split<;>simp
  unfold parseF
  rw [if_neg (by rw [hsz,zak,zak]; omega),hF]
  have hend:({ F0 with at_:=(sgL (decide (x.num<0))).length+(T x.num.natAbs).data.toList.length+1+(T x.den).data.toList.length,neg:=decide (x.num<0),m:=m,den:=d,fraction:=true,slash:=(sgL (decide (x.num<0))).length+(T x.num.natAbs).data.toList.length+1 }:Fm).end_ ((a++(⟨#[47]⟩:ByteArray))++b)=true:=by
   unfold Fm.end_
   exact (Bool.and_eq_true _ _).mpr ⟨rfl,decide_eq_true hsz.symm⟩
  rw [hend,if_neg (by decide),if_pos rfl]
  show (if dval d.data.toList=0 then _ else _)=_
  rw [hd1,za8,if_neg (by omega)]
  have hfr:fracF { F0 with at_:=(sgL (decide (x.num<0))).length+(T x.num.natAbs).data.toList.length+1+(T x.den).data.toList.length,neg:=decide (x.num<0),m:=m,den:=d,fraction:=true,slash:=(sgL (decide (x.num<0))).length+(T x.num.natAbs).data.toList.length+1 }=some (Rat.divInt (x.num.natAbs:Int) (x.den:Int)):=by
   unfold fracF
   show (if 600<(T (dval m.data.toList)).size∨600<(T (dval d.data.toList)).size then none else some (Rat.divInt (dval m.data.toList) (dval d.data.toList)))=_
   rw [hm1,hd1,za8,za8,if_neg (by omega)]
  rw [hfr]
  show ((toldR (signed _ _)).1,(toldR (signed _ _)).2.1,(toldR (signed _ _)).2.2,(0:Int))=_
  rw [hsn _ rfl,hto,←h.num,←h.den]
noncomputable def rat_Round.f (a0_0 a0_1:ByteArray) (a1:Int):Option (ByteArray×ByteArray×Int):=oneF (fun _=>if a1 < -600∨600<a1 then 1 else 0) (fun x=>((evenR (x*tenR a1):Int):Rat)*tenR (-a1)) a0_0 a0_1
end Go.Proofs.ZQ
end
section
namespace Go.Proofs.ZQ
open Go.RowKit Go.Proofs.ZW.Wa Go.Proofs.ZW.Wb Go.Proofs.ZW.Wc
attribute [local go_sem] zaC zaB zaM zaL zaz zay zaF zaE
theorem eqA23 (d:Nat) (w:World) (x0 y0:ByteArray) (x1 y1:ByteArray) :
  (Op.equalIn (d+2) 23 (.agg #[.string x0,.string x1]) (.agg #[.string y0,.string y1])).run Tryz.prog w = .ok (x0.toList == y0.toList && (x1.toList == y1.toList)) w:=by
 refine eqA_of Tryz.underlying23 (by kernel_rfl) ?_
 refine eqf_cons (by rfl) (by go_simp; rfl) (by go_simp; rfl) (by go_simp) ?_
 exact eqf_last (by rfl) (by go_simp; rfl) (by go_simp; rfl) (by go_simp)
end Go.Proofs.ZQ
end
section
namespace Go.Proofs.ZQ
open Go.RowKit Go.Proofs.ZW.Wa Go.Proofs.ZW.Wb Go.Proofs.ZW.Wc
attribute [local go_sem] zaC zaB zaM zaL zaz zay zaF zaE
attribute [local go_sem high] eqA23
noncomputable def l2_awake.f  : Option (Bool):=(rat_Parse.f (⟨#[45,49,46,50,53,48,101,45,49]⟩:ByteArray)).bind fun bt540=>((rat_Digits.f (⟨#[50,50]⟩:ByteArray) (⟨#[55]⟩:ByteArray) 4).bind fun bt545=>(if bt540.2.2.1=0 then (if bt540.2.2.2=0 then (if (bt540.1.toList == ([45,49]:List UInt8) && (bt540.2.1.toList == ([56]:List UInt8)))=true then (if bt545.1.toList=([51,46,49,52,50,57]:List UInt8) then (some (bt545.2 == 0)) else (some false)) else (some false)) else (some false)) else (some false)))
end Go.Proofs.ZQ
end
section
namespace Go.Proofs.ZQ
open Go.RowKit Go.Proofs.ZW.Wa Go.Proofs.ZW.Wb Go.Proofs.ZW.Wc
attribute [local go_sem] zaC zaB zaM zaL zaz zay zaF zaE
noncomputable def rat_Print.f (a0_0:ByteArray) (a0_1:ByteArray):Option (ByteArray×Int):=(rat_Right.f a0_0 a0_1).bind fun t531=>(if t531=true then (if a0_1.toList=([49]:List UInt8) then (some (a0_0,0)) else (if a0_0.size+1≤9223372036854775807 then (if (a0_0++(⟨#[47]⟩:ByteArray)).size+a0_1.size≤9223372036854775807 then (some ((a0_0++(⟨#[47]⟩:ByteArray))++a0_1,0)) else (none)) else (none))) else (some ((⟨#[]⟩:ByteArray),3)))
end Go.Proofs.ZQ
end
section
namespace Go.Proofs.ZQ
open Go.RowKit Go.Proofs.ZW.Wa Go.Proofs.ZP
theorem even_half (z:Rat):2*(z-(evenR z:Rat))≤1∧2*((evenR z:Rat)-z)≤1:=by
 have f1:=Rat.floor_le z
 have f2:=Rat.lt_floor_add_one z
 rw [Rat.intCast_add] at f2
 have hh:=Rat.le_iff (z-(z.floor:Rat)) (Rat.divInt 1 2)
 have hh2:=Rat.le_iff (Rat.divInt 1 2) (z-(z.floor:Rat))
 have e2:Rat.divInt 1 2=1/2:=by rw [Rat.divInt_eq_div]; rfl
 unfold evenR
 by_cases h:0<halfS z∨(halfS z=0∧z.floor.natAbs%2=1)
 ·rw [if_pos h,Rat.intCast_add]
  have hs:0≤halfS z:=by omega
  have hv:(Rat.divInt 1 2).num*(z-(z.floor:Rat)).den≤(z-(z.floor:Rat)).num*(Rat.divInt 1 2).den:=by
   unfold halfS at hs
   rcases Int.lt_or_le ((z-(z.floor:Rat)).num*(Rat.divInt 1 2).den-(Rat.divInt 1 2).num*(z-(z.floor:Rat)).den) 0 with h1|h1
   ·rw [Int.sign_eq_neg_one_of_neg h1] at hs; omega
   ·omega
  have hle:=hh2.2 hv
  rw [e2] at hle
  generalize (z.floor:Rat)=f at *
  have e1:((1:Int):Rat)=1:=rfl
  rw [e1] at f2 ⊢
  constructor<;>grind
 ·rw [if_neg h]
  have hs:halfS z≤0:=by omega
  have hv:(z-(z.floor:Rat)).num*(Rat.divInt 1 2).den≤(Rat.divInt 1 2).num*(z-(z.floor:Rat)).den:=by
   unfold halfS at hs
   rcases Int.lt_or_le 0 ((z-(z.floor:Rat)).num*(Rat.divInt 1 2).den-(Rat.divInt 1 2).num*(z-(z.floor:Rat)).den) with h1|h1
   ·rw [Int.sign_eq_one_of_pos h1] at hs; omega
   ·omega
  have hle:=hh.2 hv
  rw [e2] at hle
  generalize (z.floor:Rat)=f at *
  have e1:((1:Int):Rat)=1:=rfl
  rw [e1] at f2
  constructor<;>grind
theorem cmpR_nonpos {x y:Rat} (h:x≤y):cmpR x y≤0:=by
 rw [cmpR_sub]
 have h1:=(Rat.le_iff_sub_nonneg x y).1 h
 have h2:=Rat.num_nonneg.2 h1
 have e:x-y = -(y-x):=by grind
 rw [e,Rat.neg_num]
 rcases Int.lt_or_le 0 (-(y-x).num) with h3|h3
 ·omega
 ·rcases Int.lt_or_le (-(y-x).num) 0 with h4|h4
  ·rw [Int.sign_eq_neg_one_of_neg h4]; decide
  ·rw [show -(y-x).num=0 by omega]; decide
theorem fr_nat (k:Nat):Fr (((k:Int):Rat))=(false,T k,T 1):=by
 unfold Fr
 show (decide ((k:Int)<0),T (k:Int).natAbs,T 1)=_
 rw [decide_eq_false (by omega),Int.natAbs_natCast]
end Go.Proofs.ZQ
end
