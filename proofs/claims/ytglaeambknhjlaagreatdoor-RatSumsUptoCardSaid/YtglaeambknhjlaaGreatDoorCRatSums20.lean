/- Texts under the proof, joined by a program (prune.py): HFormOk, QRatParse, Q1, Q180, QAwake, TAwake, QAwakeT, LawRatSums. -/
import Derived.Test.YtglaeambknhjlaaGreatDoorCRatSums19
import Derived.Test.YtglaeambknhjlaaGreatDoorCRatSums09
import Derived.StillTailTactics
import Derived.RegionTactic
import Derived.ChangeAlike
import Derived.Test.YtglaeambknhjlaaGreatDoorCRatSums13
import Derived.Test.YtglaeambknhjlaaGreatDoorCRatSums15
import Derived.Test.YtglaeambknhjlaaGreatDoorCRatSums17
set_option linter.unusedVariables false
set_option linter.unusedSimpArgs false
set_option exponentiation.threshold 20001
set_option maxHeartbeats 8000000
set_option maxRecDepth 100000
section
namespace Go.Proofs.ZP
open Go.RowKit Go.Proofs.ZW.Wa
theorem isD_iff {c:UInt8}:isD c=true↔48≤c.toNat∧c.toNat≤57:=by unfold isD; simp
theorem digT_data (s:ByteArray) (f:Fm):(f.digT s).data.toList=(s.data.toList.drop f.at_).takeWhile isD:=by
 unfold Fm.digT runN
 rw [ByteArray.data_extract,Array.toList_extract,List.extract_eq_take_drop,Nat.add_sub_cancel_left]
 exact (List.prefix_iff_eq_take.1 (List.takeWhile_prefix isD)).symm
theorem dig_takeWhile (l:List UInt8):Dig (l.takeWhile isD):=by
 induction l with
 | nil=>intro c hc; cases hc
 | cons b t ih =>
  intro c hc
  rw [List.takeWhile_cons] at hc
  split at hc
  ·rename_i hb
   rcases List.mem_cons.1 hc with rfl|hc
   ·exact isD_iff.1 hb
   ·exact ih c hc
  ·cases hc
theorem dig_nil:Dig []:=fun c hc=>by cases hc
theorem digT_dig (s:ByteArray) (f:Fm):Dig (f.digT s).data.toList:=by rw [digT_data]; exact dig_takeWhile _
theorem dig_app {a b:ByteArray} (ha:Dig a.data.toList) (hb:Dig b.data.toList):Dig (a++b).data.toList:=fun c hc=>by
 rw [ByteArray.data_append,Array.toList_append] at hc
 exact (List.mem_append.1 hc).elim (ha c) (hb c)
structure Gd (s:ByteArray) (f:Fm):Prop where
 m:Dig f.m.data.toList
 x:Dig f.exp.data.toList
 d:Dig f.den.data.toList
 mz:f.m.size≤2*s.size
 xz:f.exp.size≤s.size
 dz:f.den.size≤s.size
 bh:f.behind≤s.size
 at_:Okf s f
theorem Gd.sgn {s set:ByteArray} {f:Fm} (h:Gd s f):Gd s (f.sgn s set):=by
 have ha:=h.at_.sgn (set:=set)
 unfold Fm.sgn at *
 split
 ·rename_i hb
  rw [if_pos hb] at ha
  exact ⟨h.m,h.x,h.d,h.mz,h.xz,h.dz,h.bh,ha⟩
 ·exact h
theorem Gd.dig {s:ByteArray} {f:Fm} (h:Gd s f):Gd s (f.dig s):=⟨h.m,h.x,h.d,h.mz,h.xz,h.dz,h.bh,h.at_.dig⟩
theorem sgn_m2 (s set:ByteArray) (f:Fm):(f.sgn s set).m=f.m:=Fm.sgn_m s set f
theorem form1_ok (s:ByteArray):Gd s (form1 s)∧(form1 s).m.size≤s.size:=by
 have h0:Gd s F0:=⟨dig_nil,dig_nil,dig_nil,Nat.zero_le _,Nat.zero_le _,Nat.zero_le _,Nat.zero_le _,Nat.zero_le _⟩
 have h1:Gd s { F0.sgn s cM with neg:=F0.sgV s cM != 0 }:=by
  have h:=h0.sgn (set:=cM)
  exact ⟨h.m,h.x,h.d,h.mz,h.xz,h.dz,h.bh,h.at_⟩
 have h2:=h1.dig
 have hz:=zcj s { F0.sgn s cM with neg:=F0.sgV s cM != 0 }
 exact ⟨⟨digT_dig _ _,h2.x,h2.d,Nat.le_trans hz (by omega),h2.xz,h2.dz,h2.bh,h2.at_⟩,hz⟩
theorem formS_ok {s:ByteArray} {f:Fm} (h:Gd s f):Gd s (formS s f):=by
 have h1:Gd s { f.sgn s cS with fraction:=true,slash:=(f.sgn s cS).at_ }:=by
  have h:=h.sgn (set:=cS)
  exact ⟨h.m,h.x,h.d,h.mz,h.xz,h.dz,h.bh,h.at_⟩
 have h2:=h1.dig
 exact ⟨h2.m,h2.x,digT_dig _ _,h2.mz,h2.xz,zcj _ _,h2.bh,h2.at_⟩
theorem formP_ok {s:ByteArray} {f:Fm} (h:Gd s f) (hm:f.m.size≤s.size):Gd s (formP s f):=by
 unfold formP
 split
 ·exact h.sgn
 ·have h1:=h.sgn (set:=cP)
  have h2:=h1.dig
  have hz:=zcj s (f.sgn s cP)
  refine ⟨dig_app h1.m (digT_dig _ _),h2.x,h2.d,?_,h2.xz,h2.dz,hz,h2.at_⟩
  show ((f.sgn s cP).m++_).size≤_
  rw [ByteArray.size_append,sgn_m2]
  omega
theorem formE_ok {s:ByteArray} {f:Fm} (h:Gd s f):Gd s (formE s f):=by
 unfold formE
 split
 ·exact h.sgn
 ·have h1:=h.sgn (set:=cE)
  have h2:Gd s { (f.sgn s cE).sgn s cPM with minus:=(f.sgn s cE).sgV s cPM == 45 }:=by
   have h:=h1.sgn (set:=cPM)
   exact ⟨h.m,h.x,h.d,h.mz,h.xz,h.dz,h.bh,h.at_⟩
  show Gd s (if _ then _ else _)
  split
  ·exact h2
  ·have h3:=h2.dig
   exact ⟨h3.m,digT_dig _ _,h3.d,h3.mz,zcj _ _,h3.dz,h3.bh,h3.at_⟩
theorem formF_ok (s:ByteArray):Gd s (formF s):=by
 obtain ⟨h1,h2⟩:=form1_ok s
 unfold formF
 split
 ·exact formE_ok (formP_ok h1.sgn (by rw [sgn_m2]; exact h2))
 ·exact formS_ok h1
noncomputable def signed (f:Fm) (x:Rat):Rat:=if f.neg then -x else x
noncomputable def fracF (f:Fm):Option Rat:=if 600<(T (dval f.m.data.toList)).size∨600<(T (dval f.den.data.toList)).size then none else some (Rat.divInt (dval f.m.data.toList) (dval f.den.data.toList))
noncomputable def toldP (f:Fm) (r:Option Rat):ByteArray×ByteArray×Int×Int:=match r with
 | none=>(⟨#[]⟩,⟨#[]⟩,7,0)
 | some x=>((toldR (signed f x)).1,(toldR (signed f x)).2.1,(toldR (signed f x)).2.2,0)
noncomputable def parseF (s:ByteArray):ByteArray×ByteArray×Int×Int:=
 if 65536<s.size then (⟨#[]⟩,⟨#[]⟩,4,0)
 else if (formF s).end_ s=false then (⟨#[]⟩,⟨#[]⟩,3,((formF s).at_:Int))
 else if (formF s).fraction=true then (if dval (formF s).den.data.toList=0 then (⟨#[]⟩,⟨#[]⟩,8,((formF s).slash:Int)) else toldP (formF s) (fracF (formF s)))
 else toldP (formF s) (decF (formF s))
end Go.Proofs.ZP
end
section
namespace Go.Proofs.ZQ
open Go.RowKit Go.Proofs.ZW.Wa Go.Proofs.ZP
theorem parse_size (s:ByteArray) (w:World) (hs:65536<s.size) :
  Calls Tryz.prog 59 #[.string s] w fun e w'=>e = .returned (.tuple #[.agg #[.string ((⟨#[]⟩,⟨#[]⟩,4,0):ByteArray×ByteArray×Int×Int).1,.string ((⟨#[]⟩,⟨#[]⟩,4,0):ByteArray×ByteArray×Int×Int).2.1],.int .i64 ((⟨#[]⟩,⟨#[]⟩,4,0):ByteArray×ByteArray×Int×Int).2.2.1,.int .i64 ((⟨#[]⟩,⟨#[]⟩,4,0):ByteArray×ByteArray×Int×Int).2.2.2])∧Below w.heap.size w w':=by
 have hba:=zaa (Below.refl w.heap.size w) (.cells #[.string ⟨#[]⟩,.string ⟨#[]⟩] 23)
 have hbk:=zaC w (.cells #[.string ⟨#[]⟩,.string ⟨#[]⟩] 23)
 have hsI:(65536:Int)<(s.size:Int):=by omega
 have HK:=Lib.hid hbk
 clear hbk
 go_enter Tryz.func59,Tryz.ntmps59
 go_wp2
 refine bodyPost_ret (za2 rfl _ _ w.heap.size 23 #[.string ⟨#[]⟩,.string ⟨#[]⟩] (0,0) _ rfl HK.out Tryz.underlying23 rfl (by kernel_rfl)) rfl ?_
 exact ⟨rfl,hba⟩
theorem parse_form (s:ByteArray) (w:World) (hs:s.size≤65536) (f:Fm) (hf:formF s=f) (he:f.end_ s=false) :
  Calls Tryz.prog 59 #[.string s] w fun e w'=>e = .returned (.tuple #[.agg #[.string ((⟨#[]⟩,⟨#[]⟩,3,(f.at_:Int)):ByteArray×ByteArray×Int×Int).1,.string ((⟨#[]⟩,⟨#[]⟩,3,(f.at_:Int)):ByteArray×ByteArray×Int×Int).2.1],.int .i64 ((⟨#[]⟩,⟨#[]⟩,3,(f.at_:Int)):ByteArray×ByteArray×Int×Int).2.2.1,.int .i64 ((⟨#[]⟩,⟨#[]⟩,3,(f.at_:Int)):ByteArray×ByteArray×Int×Int).2.2.2])∧Below w.heap.size w w':=by
 have hba:=zaa (Below.refl w.heap.size w) (.cells #[.string ⟨#[]⟩,.string ⟨#[]⟩] 23)
 have hbk:=zaC w (.cells #[.string ⟨#[]⟩,.string ⟨#[]⟩] 23)
 have HF:∀ W,Calls Tryz.prog 143 #[.string s] W fun e w'=>∃ g,e = .returned (.tuple #[.pointer (some ⟨g,0,none⟩),.bool (f.end_ s)])∧FSt W w' g s f:=fun W=>by
  subst hf
  exact zbJ s W hs
 have hsI:¬ (65536:Int)<(s.size:Int):=by omega
 rw [he] at HF
 clear hf he
 go_enter Tryz.func59,Tryz.ntmps59
 go_wp2_with fail
 generalize w.alloc (.cells #[.string ⟨#[]⟩,.string ⟨#[]⟩] 23)=W0 at *
 generalize hBe:w.heap.size=B0 at hbk ⊢
 have HBE:=Lib.hid (show w.heap.size≤B0 by omega)
 clear hBe
 refine (HF _).mono ?_
 rintro e w1 ⟨g,rfl,h1⟩
 have hB1:=bthen hba h1.below
 have hbk1:=(h1.below.block _ (zar hbk)).trans hbk
 have hgB:B0<g:=Nat.lt_of_lt_of_le (zar hbk) h1.ge
 clear HF hba hbk
 have c1:=h1.c 1 (.int .i64 f.at_) rfl
 generalize hA:f.at_=a at c1
 have HA:=Lib.hid hA
 clear hA h1
 have cB0:=(zaf hbk1 0).trans (show _=some (Value.string ⟨#[]⟩) from rfl)
 have cB1:=(zaf hbk1 1).trans (show _=some (Value.string ⟨#[]⟩) from rfl)
 have fB0:=zae hbk1 0
 have fB1:=zae hbk1 1
 have hs1:=zaw hbk1 0 (.string ⟨#[]⟩)
 have hs2:=zaw hs1 1 (.string ⟨#[]⟩)
 have HS2:=Lib.hid (hs2.trans (show _=some (Obj.cells #[.string ⟨#[]⟩,.string ⟨#[]⟩] 23 (0,0)) from rfl))
 have HBF:=Lib.hid (zag (zag (g:=B0) (j:=0) (v:=.string ⟨#[]⟩) hB1 HBE.out) (j:=1) (v:=.string ⟨#[]⟩) (g:=B0) HBE.out)
 clear hs1 hs2 hbk1
 go_wp2_with fail
 go_region
 all_goals go_wp2
 all_goals refine bodyPost_ret (za2 rfl _ _ B0 23 #[.string ⟨#[]⟩,.string ⟨#[]⟩] (0,0) _ rfl (show _=some (Obj.cells #[.string ⟨#[]⟩,.string ⟨#[]⟩] 23 (0,0)) from HS2.out) Tryz.underlying23 rfl (by kernel_rfl)) rfl ?_
 all_goals exact ⟨by rw [HA.out]; rfl,bthen HBF.out (zad _)⟩
theorem parse_zero (s:ByteArray) (w:World) (hs:s.size≤65536) (f:Fm) (hf:formF s=f) (hg:Gd s f) (he:f.end_ s=true) (hfr:f.fraction=true) (hB:dval f.den.data.toList=0) :
  Calls Tryz.prog 59 #[.string s] w fun e w'=>e = .returned (.tuple #[.agg #[.string ((⟨#[]⟩,⟨#[]⟩,8,(f.slash:Int)):ByteArray×ByteArray×Int×Int).1,.string ((⟨#[]⟩,⟨#[]⟩,8,(f.slash:Int)):ByteArray×ByteArray×Int×Int).2.1],.int .i64 ((⟨#[]⟩,⟨#[]⟩,8,(f.slash:Int)):ByteArray×ByteArray×Int×Int).2.2.1,.int .i64 ((⟨#[]⟩,⟨#[]⟩,8,(f.slash:Int)):ByteArray×ByteArray×Int×Int).2.2.2])∧Below w.heap.size w w':=by
 have hba:=zaa (Below.refl w.heap.size w) (.cells #[.string ⟨#[]⟩,.string ⟨#[]⟩] 23)
 have hbk:=zaC w (.cells #[.string ⟨#[]⟩,.string ⟨#[]⟩] 23)
 have HF:∀ W,Calls Tryz.prog 143 #[.string s] W fun e w'=>∃ g,e = .returned (.tuple #[.pointer (some ⟨g,0,none⟩),.bool (f.end_ s)])∧FSt W w' g s f:=fun W=>by
  subst hf
  exact zbJ s W hs
 have hsI:¬ (65536:Int)<(s.size:Int):=by omega
 rw [he] at HF
 have HM:=fun W=>(zaL f.m W hg.m).mono (fun e w' ⟨h1,h2⟩=>(⟨h1,h2.symm⟩:_∧w'=W))
 have HD:=fun W=>(zaL f.den W hg.d).mono (fun e w' ⟨h1,h2⟩=>(⟨h1,h2.symm⟩:_∧w'=W))
 clear hf he hg
 generalize dval f.m.data.toList=A at *
 generalize dval f.den.data.toList=B at *
 go_enter Tryz.func59,Tryz.ntmps59
 go_wp2_with fail
 generalize w.alloc (.cells #[.string ⟨#[]⟩,.string ⟨#[]⟩] 23)=W0 at *
 generalize hBe:w.heap.size=B0 at hbk ⊢
 have HBE:=Lib.hid (show w.heap.size≤B0 by omega)
 clear hBe
 refine (HF _).mono ?_
 rintro e w1 ⟨g,rfl,h1⟩
 have hB1:=bthen hba h1.below
 have hbk1:=(h1.below.block _ (zar hbk)).trans hbk
 have hgB:B0<g:=Nat.lt_of_lt_of_le (zar hbk) h1.ge
 clear HF hba hbk
 have c9:=h1.c 9 (.bool f.fraction) rfl
 rw [hfr] at c9
 have c4:=h1.c 4 (.string f.m) rfl
 have c8:=h1.c 8 (.string f.den) rfl
 have H1:=Lib.hid h1
 have HFR:=Lib.hid hfr
 clear h1 hfr
 go_wp2_with fail
 go_quiet ((first|(go_at_call 144; exact Calls.quiet_of_same (HM _))|(go_at_call 144; exact Calls.quiet_of_same (HD _))))
 generalize hqd:w1.drewN _=w2
 have hbd:Below w1.heap.size w1 w2:=by subst hqd; exact zao _ _
 have h2:FSt W0 w2 g s f:=by subst hqd; exact H1.out.drewN _
 have hB2:=bthen hB1 hbd
 have hbk2:=(hbd.block _ (zar hbk1)).trans hbk1
 clear hqd hbd hB1 hbk1 HM HD H1 c4 c8 c9
 subst hB
 have hz:=t0_eq
 have c10:=h2.c 10 (.int .i64 f.slash) rfl
 generalize hA:f.slash=a at c10
 have HA:=Lib.hid hA
 clear hA h2
 go_wp2_with fail
 have cB0:=(zaf hbk2 0).trans (show _=some (Value.string ⟨#[]⟩) from rfl)
 have cB1:=(zaf hbk2 1).trans (show _=some (Value.string ⟨#[]⟩) from rfl)
 have fB0:=zae hbk2 0
 have fB1:=zae hbk2 1
 have hs1:=zaw hbk2 0 (.string ⟨#[]⟩)
 have hs2:=zaw hs1 1 (.string ⟨#[]⟩)
 have HS2:=Lib.hid (hs2.trans (show _=some (Obj.cells #[.string ⟨#[]⟩,.string ⟨#[]⟩] 23 (0,0)) from rfl))
 have HBF:=Lib.hid (zag (zag (g:=B0) (j:=0) (v:=.string ⟨#[]⟩) hB2 HBE.out) (j:=1) (v:=.string ⟨#[]⟩) (g:=B0) HBE.out)
 clear hs1 hs2 hbk2
 go_wp2_with fail
 go_region
 all_goals go_wp2
 all_goals refine bodyPost_ret (za2 rfl _ _ B0 23 #[.string ⟨#[]⟩,.string ⟨#[]⟩] (0,0) _ rfl (show _=some (Obj.cells #[.string ⟨#[]⟩,.string ⟨#[]⟩] 23 (0,0)) from HS2.out) Tryz.underlying23 rfl (by kernel_rfl)) rfl ?_
 all_goals exact ⟨by rw [HA.out]; rfl,bthen HBF.out (zad _)⟩
theorem parse_large (s:ByteArray) (w:World) (hs:s.size≤65536) (f:Fm) (hf:formF s=f) (hg:Gd s f) (he:f.end_ s=true) (hfr:f.fraction=true) (hB:dval f.den.data.toList≠0) (hl:600<(T (dval f.m.data.toList)).size∨600<(T (dval f.den.data.toList)).size) :
  Calls Tryz.prog 59 #[.string s] w fun e w'=>e = .returned (.tuple #[.agg #[.string ((⟨#[]⟩,⟨#[]⟩,7,0):ByteArray×ByteArray×Int×Int).1,.string ((⟨#[]⟩,⟨#[]⟩,7,0):ByteArray×ByteArray×Int×Int).2.1],.int .i64 ((⟨#[]⟩,⟨#[]⟩,7,0):ByteArray×ByteArray×Int×Int).2.2.1,.int .i64 ((⟨#[]⟩,⟨#[]⟩,7,0):ByteArray×ByteArray×Int×Int).2.2.2])∧Below w.heap.size w w':=by
 have hba:=zaa (Below.refl w.heap.size w) (.cells #[.string ⟨#[]⟩,.string ⟨#[]⟩] 23)
 have hbk:=zaC w (.cells #[.string ⟨#[]⟩,.string ⟨#[]⟩] 23)
 have HF:∀ W,Calls Tryz.prog 143 #[.string s] W fun e w'=>∃ g,e = .returned (.tuple #[.pointer (some ⟨g,0,none⟩),.bool (f.end_ s)])∧FSt W w' g s f:=fun W=>by
  subst hf
  exact zbJ s W hs
 have hsI:¬ (65536:Int)<(s.size:Int):=by omega
 rw [he] at HF
 have HM:=fun W=>(zaL f.m W hg.m).mono (fun e w' ⟨h1,h2⟩=>(⟨h1,h2.symm⟩:_∧w'=W))
 have HD:=fun W=>(zaL f.den W hg.d).mono (fun e w' ⟨h1,h2⟩=>(⟨h1,h2.symm⟩:_∧w'=W))
 clear hf he hg
 generalize dval f.m.data.toList=A at *
 generalize dval f.den.data.toList=B at *
 go_enter Tryz.func59,Tryz.ntmps59
 go_wp2_with fail
 generalize w.alloc (.cells #[.string ⟨#[]⟩,.string ⟨#[]⟩] 23)=W0 at *
 generalize hBe:w.heap.size=B0 at hbk ⊢
 have HBE:=Lib.hid (show w.heap.size≤B0 by omega)
 clear hBe
 refine (HF _).mono ?_
 rintro e w1 ⟨g,rfl,h1⟩
 have hB1:=bthen hba h1.below
 have hbk1:=(h1.below.block _ (zar hbk)).trans hbk
 have hgB:B0<g:=Nat.lt_of_lt_of_le (zar hbk) h1.ge
 clear HF hba hbk
 have c9:=h1.c 9 (.bool f.fraction) rfl
 rw [hfr] at c9
 have c4:=h1.c 4 (.string f.m) rfl
 have c8:=h1.c 8 (.string f.den) rfl
 have H1:=Lib.hid h1
 have HFR:=Lib.hid hfr
 clear h1 hfr
 go_wp2_with fail
 go_quiet ((first|(go_at_call 144; exact Calls.quiet_of_same (HM _))|(go_at_call 144; exact Calls.quiet_of_same (HD _))))
 generalize hqd:w1.drewN _=w2
 have hbd:Below w1.heap.size w1 w2:=by subst hqd; exact zao _ _
 have h2:FSt W0 w2 g s f:=by subst hqd; exact H1.out.drewN _
 have hB2:=bthen hB1 hbd
 have hbk2:=(hbd.block _ (zar hbk1)).trans hbk1
 clear hqd hbd hB1 hbk1 HM HD H1 c4 c8 c9
 have hz:=t0_ne hB
 clear h2
 by_cases h6:600<(T A).size
 ·have h6I:(600:Int)<((T A).size:Int):=by omega
  have cB0:=(zaf hbk2 0).trans (show _=some (Value.string ⟨#[]⟩) from rfl)
  have cB1:=(zaf hbk2 1).trans (show _=some (Value.string ⟨#[]⟩) from rfl)
  have fB0:=zae hbk2 0
  have fB1:=zae hbk2 1
  have hs1:=zaw hbk2 0 (.string ⟨#[]⟩)
  have hs2:=zaw hs1 1 (.string ⟨#[]⟩)
  have HS2:=Lib.hid (hs2.trans (show _=some (Obj.cells #[.string ⟨#[]⟩,.string ⟨#[]⟩] 23 (0,0)) from rfl))
  have HBF:=Lib.hid (zag (zag (g:=B0) (j:=0) (v:=.string ⟨#[]⟩) hB2 HBE.out) (j:=1) (v:=.string ⟨#[]⟩) (g:=B0) HBE.out)
  clear hs1 hs2 hbk2
  go_wp2
  refine bodyPost_ret (za2 rfl _ _ B0 23 #[.string ⟨#[]⟩,.string ⟨#[]⟩] (0,0) _ rfl HS2.out Tryz.underlying23 rfl (by kernel_rfl)) rfl ?_
  exact ⟨rfl,HBF.out⟩
 ·have h6I:¬ (600:Int)<((T A).size:Int):=by omega
  have h7I:(600:Int)<((T B).size:Int):=by omega
  have cB0:=(zaf hbk2 0).trans (show _=some (Value.string ⟨#[]⟩) from rfl)
  have cB1:=(zaf hbk2 1).trans (show _=some (Value.string ⟨#[]⟩) from rfl)
  have fB0:=zae hbk2 0
  have fB1:=zae hbk2 1
  have hs1:=zaw hbk2 0 (.string ⟨#[]⟩)
  have hs2:=zaw hs1 1 (.string ⟨#[]⟩)
  have HS2:=Lib.hid (hs2.trans (show _=some (Obj.cells #[.string ⟨#[]⟩,.string ⟨#[]⟩] 23 (0,0)) from rfl))
  have HBF:=Lib.hid (zag (zag (g:=B0) (j:=0) (v:=.string ⟨#[]⟩) hB2 HBE.out) (j:=1) (v:=.string ⟨#[]⟩) (g:=B0) HBE.out)
  clear hs1 hs2 hbk2
  go_wp2
  refine bodyPost_ret (za2 rfl _ _ B0 23 #[.string ⟨#[]⟩,.string ⟨#[]⟩] (0,0) _ rfl HS2.out Tryz.underlying23 rfl (by kernel_rfl)) rfl ?_
  exact ⟨rfl,HBF.out⟩
theorem parse_frac (s:ByteArray) (w:World) (hs:s.size≤65536) (f:Fm) (hf:formF s=f) (hg:Gd s f) (he:f.end_ s=true) (hfr:f.fraction=true) (hB:dval f.den.data.toList≠0) (hl:¬ (600<(T (dval f.m.data.toList)).size∨600<(T (dval f.den.data.toList)).size)) :
  Calls Tryz.prog 59 #[.string s] w fun e w'=>e = .returned (.tuple #[.agg #[.string ((toldR (signed f (Rat.divInt (dval f.m.data.toList) (dval f.den.data.toList)))).1,(toldR (signed f (Rat.divInt (dval f.m.data.toList) (dval f.den.data.toList)))).2.1,(toldR (signed f (Rat.divInt (dval f.m.data.toList) (dval f.den.data.toList)))).2.2,(0:Int)).1,.string ((toldR (signed f (Rat.divInt (dval f.m.data.toList) (dval f.den.data.toList)))).1,(toldR (signed f (Rat.divInt (dval f.m.data.toList) (dval f.den.data.toList)))).2.1,(toldR (signed f (Rat.divInt (dval f.m.data.toList) (dval f.den.data.toList)))).2.2,(0:Int)).2.1],.int .i64 ((toldR (signed f (Rat.divInt (dval f.m.data.toList) (dval f.den.data.toList)))).1,(toldR (signed f (Rat.divInt (dval f.m.data.toList) (dval f.den.data.toList)))).2.1,(toldR (signed f (Rat.divInt (dval f.m.data.toList) (dval f.den.data.toList)))).2.2,(0:Int)).2.2.1,.int .i64 ((toldR (signed f (Rat.divInt (dval f.m.data.toList) (dval f.den.data.toList)))).1,(toldR (signed f (Rat.divInt (dval f.m.data.toList) (dval f.den.data.toList)))).2.1,(toldR (signed f (Rat.divInt (dval f.m.data.toList) (dval f.den.data.toList)))).2.2,(0:Int)).2.2.2])∧Below w.heap.size w w':=by
 have hba:=zaa (Below.refl w.heap.size w) (.cells #[.string ⟨#[]⟩,.string ⟨#[]⟩] 23)
 have hbk:=zaC w (.cells #[.string ⟨#[]⟩,.string ⟨#[]⟩] 23)
 have HF:∀ W,Calls Tryz.prog 143 #[.string s] W fun e w'=>∃ g,e = .returned (.tuple #[.pointer (some ⟨g,0,none⟩),.bool (f.end_ s)])∧FSt W w' g s f:=fun W=>by
  subst hf
  exact zbJ s W hs
 have hsI:¬ (65536:Int)<(s.size:Int):=by omega
 rw [he] at HF
 have HM:=fun W=>(zaL f.m W hg.m).mono (fun e w' ⟨h1,h2⟩=>(⟨h1,h2.symm⟩:_∧w'=W))
 have HD:=fun W=>(zaL f.den W hg.d).mono (fun e w' ⟨h1,h2⟩=>(⟨h1,h2.symm⟩:_∧w'=W))
 clear hf he hg
 generalize dval f.m.data.toList=A at *
 generalize dval f.den.data.toList=B at *
 go_enter Tryz.func59,Tryz.ntmps59
 go_wp2_with fail
 generalize w.alloc (.cells #[.string ⟨#[]⟩,.string ⟨#[]⟩] 23)=W0 at *
 generalize hBe:w.heap.size=B0 at hbk ⊢
 have HBE:=Lib.hid (show w.heap.size≤B0 by omega)
 clear hBe
 refine (HF _).mono ?_
 rintro e w1 ⟨g,rfl,h1⟩
 have hB1:=bthen hba h1.below
 have hbk1:=(h1.below.block _ (zar hbk)).trans hbk
 have hgB:B0<g:=Nat.lt_of_lt_of_le (zar hbk) h1.ge
 clear HF hba hbk
 have c9:=h1.c 9 (.bool f.fraction) rfl
 rw [hfr] at c9
 have c4:=h1.c 4 (.string f.m) rfl
 have c8:=h1.c 8 (.string f.den) rfl
 have H1:=Lib.hid h1
 have HFR:=Lib.hid hfr
 clear h1 hfr
 go_wp2_with fail
 go_quiet ((first|(go_at_call 144; exact Calls.quiet_of_same (HM _))|(go_at_call 144; exact Calls.quiet_of_same (HD _))))
 generalize hqd:w1.drewN _=w2
 have hbd:Below w1.heap.size w1 w2:=by subst hqd; exact zao _ _
 have h2:FSt W0 w2 g s f:=by subst hqd; exact H1.out.drewN _
 have hB2:=bthen hB1 hbd
 have hbk2:=(hbd.block _ (zar hbk1)).trans hbk1
 clear hqd hbd hB1 hbk1 HM HD H1 c4 c8 c9
 have hz:=t0_ne hB
 have h6:(T A).size≤600:=by omega
 have h7:(T B).size≤600:=by omega
 have h6I:¬ (600:Int)<((T A).size:Int):=by omega
 have h7I:¬ (600:Int)<((T B).size:Int):=by omega
 have HBA:=Lib.hid (bd600 ((zax (by decide)).1 h6))
 have HBB:=Lib.hid (bd600 ((zax (by decide)).1 h7))
 have hu105:=Tryz.underlying105
 have hu112:=Tryz.underlying112
 have hnew:=RatAt.new w2 112 (by decide)
 have hbz:=zaa (Below.refl w2.heap.size w2) (.cells #[.bool false,.slice none 0 0,.bool false,.slice none 0 0] 112)
 have hgl:=zar h2.blk
 have hBz:B0<w2.heap.size:=zar hbk2
 have hwz:w.heap.size≤w2.heap.size:=hB2.size
 clear hl
 go_wp2_with fail
 refine (zbf A _ (show _≤_ by omega)).mono ?_
 rintro e w3 ⟨D,rfl,hD,ha3,hb3⟩
 go_wp2_with fail
 refine (zbf B _ (show _≤_ by omega)).mono ?_
 rintro e w4 ⟨D2,rfl,hD2,hb4n,hb4⟩
 have hsz:=hbz.size
 have hsz3:=hb3.size
 have hl3:=ha3.lt
 go_wp2_with fail
 refine (zbg w2.heap.size D 0 D2 0 (A:Int) (B:Int) _ ((hnew.slot.below hb3).below hb4) (ha3.below hb4) hb4n (by omega) HBA.out HBB.out (by unfold big; omega)).mono ?_
 rintro e w5 ⟨rfl,hx5,hu5⟩
 have hbq:=bthen hbz (bthen hb3 hb4)
 have hB5:=hu5.new (bthen hB2 hbq) hwz
 have hbk5:=(hu5.other _ (zar ((hbq.block _ (zar hbk2)).trans hbk2)) (by omega)).trans ((hbq.block _ (zar hbk2)).trans hbk2)
 have hbg:=(hu5.other _ (zar ((hbq.block _ (zar h2.blk)).trans h2.blk)) (by omega)).trans ((hbq.block _ (zar h2.blk)).trans h2.blk)
 have c3:=(zaf hbg 3).trans (show _=some (Value.bool f.neg) from rfl)
 have HBX:=Lib.hid (Bdr.divInt (show (B:Int)≠0 by omega) HBA.out HBB.out)
 have HZ:=Lib.hid hwz
 have HZB:=Lib.hid hBz
 clear hnew hbz h2 ha3 hb3 hb4n hb4 hu5 hbq hbg hB2 hbk2
 cases hng:f.neg
 ·rw [hng] at c3
  have HV:=Lib.hid (show signed f (Rat.divInt (A:Int) (B:Int))=Rat.divInt (A:Int) (B:Int) by unfold signed; rw [hng]; rfl)
  clear hng
  go_wp2_with fail
  refine (zcg w2.heap.size (Rat.divInt (A:Int) (B:Int)) _ hx5 HBX.out (by unfold big; omega)).mono ?_
  rintro e wt ⟨rfl,hbt⟩
  have hBt:=bthen hB5 hbt
  have hbkt:=(hbt.block _ (zar hbk5)).trans hbk5
  clear hx5 hB5 hbk5 hbt
  clear c3
  generalize htt:toldR (Rat.divInt (A:Int) (B:Int))=tt
  have HTT:=Lib.hid (show toldR (signed f (Rat.divInt (A:Int) (B:Int)))=tt by rw [HV.out]; exact htt)
  clear htt HV
  have hbr:=zaa (Below.refl wt.heap.size wt) (.cells #[.string tt.1,.string tt.2.1] 23)
  have hBr:=bthen hBt hbr
  have hbkr:=(hbr.block _ (zar hbkt)).trans hbkt
  have hkr:=zaC wt (.cells #[.string tt.1,.string tt.2.1] 23)
  have hne:wt.heap.size≠B0:=by have:=zar hbkt; omega
  clear hBt hbkt hbr hkr hne
  have cB0:=(zaf hbkr 0).trans (show _=some (Value.string ⟨#[]⟩) from rfl)
  have cB1:=(zaf hbkr 1).trans (show _=some (Value.string ⟨#[]⟩) from rfl)
  have fB0:=zae hbkr 0
  have fB1:=zae hbkr 1
  have hs1:=zaw hbkr 0 (.string tt.1)
  have hs2:=zaw hs1 1 (.string tt.2.1)
  have HS2:=Lib.hid (hs2.trans (show _=some (Obj.cells #[.string tt.1,.string tt.2.1] 23 (0,0)) from rfl))
  have HBF:=Lib.hid (zag (zag (g:=B0) (j:=0) (v:=.string tt.1) hBr HBE.out) (j:=1) (v:=.string tt.2.1) (g:=B0) HBE.out)
  clear hs1 hs2 hbkr
  go_wp2
  refine bodyPost_ret (za2 rfl _ _ B0 23 #[.string tt.1,.string tt.2.1] (0,0) _ rfl HS2.out Tryz.underlying23 rfl (by kernel_rfl)) rfl ?_
  exact ⟨by rw [HTT.out]; rfl,HBF.out⟩
 ·rw [hng] at c3
  have HV:=Lib.hid (show signed f (Rat.divInt (A:Int) (B:Int)) = -(Rat.divInt (A:Int) (B:Int)) by unfold signed; rw [hng]; rfl)
  clear hng
  go_wp2_with fail
  refine (rneg_calls w2.heap.size w2.heap.size (Rat.divInt (A:Int) (B:Int)) _ hx5.slot hx5 HBX.out (by unfold big; omega)).mono ?_
  rintro e wn ⟨rfl,hxn,hun⟩
  have hBn:=hun.new hB5 HZ.out
  have hbkn:=(hun.other _ (zar hbk5) (by have:=HZB.out; omega)).trans hbk5
  have hbn:=Lib.hid (HBX.out.neg)
  clear hx5 hB5 hbk5 hun c3
  go_wp2_with fail
  refine (zcg w2.heap.size (-(Rat.divInt (A:Int) (B:Int))) _ hxn hbn.out (by unfold big; omega)).mono ?_
  rintro e wt ⟨rfl,hbt⟩
  have hBt:=bthen hBn hbt
  have hbkt:=(hbt.block _ (zar hbkn)).trans hbkn
  clear hxn hBn hbkn hbt
  generalize htt:toldR (-(Rat.divInt (A:Int) (B:Int)))=tt
  have HTT:=Lib.hid (show toldR (signed f (Rat.divInt (A:Int) (B:Int)))=tt by rw [HV.out]; exact htt)
  clear htt HV
  have hbr:=zaa (Below.refl wt.heap.size wt) (.cells #[.string tt.1,.string tt.2.1] 23)
  have hBr:=bthen hBt hbr
  have hbkr:=(hbr.block _ (zar hbkt)).trans hbkt
  have hkr:=zaC wt (.cells #[.string tt.1,.string tt.2.1] 23)
  have hne:wt.heap.size≠B0:=by have:=zar hbkt; omega
  clear hBt hbkt hbr hkr hne
  have cB0:=(zaf hbkr 0).trans (show _=some (Value.string ⟨#[]⟩) from rfl)
  have cB1:=(zaf hbkr 1).trans (show _=some (Value.string ⟨#[]⟩) from rfl)
  have fB0:=zae hbkr 0
  have fB1:=zae hbkr 1
  have hs1:=zaw hbkr 0 (.string tt.1)
  have hs2:=zaw hs1 1 (.string tt.2.1)
  have HS2:=Lib.hid (hs2.trans (show _=some (Obj.cells #[.string tt.1,.string tt.2.1] 23 (0,0)) from rfl))
  have HBF:=Lib.hid (zag (zag (g:=B0) (j:=0) (v:=.string tt.1) hBr HBE.out) (j:=1) (v:=.string tt.2.1) (g:=B0) HBE.out)
  clear hs1 hs2 hbkr
  go_wp2
  refine bodyPost_ret (za2 rfl _ _ B0 23 #[.string tt.1,.string tt.2.1] (0,0) _ rfl HS2.out Tryz.underlying23 rfl (by kernel_rfl)) rfl ?_
  exact ⟨by rw [HTT.out]; rfl,HBF.out⟩
theorem parse_dlarge (s:ByteArray) (w:World) (hs:s.size≤65536) (f:Fm) (hf:formF s=f) (hg:Gd s f) (he:f.end_ s=true) (hfr:f.fraction=false) (hd:decF f=none) :
  Calls Tryz.prog 59 #[.string s] w fun e w'=>e = .returned (.tuple #[.agg #[.string ((⟨#[]⟩,⟨#[]⟩,7,0):ByteArray×ByteArray×Int×Int).1,.string ((⟨#[]⟩,⟨#[]⟩,7,0):ByteArray×ByteArray×Int×Int).2.1],.int .i64 ((⟨#[]⟩,⟨#[]⟩,7,0):ByteArray×ByteArray×Int×Int).2.2.1,.int .i64 ((⟨#[]⟩,⟨#[]⟩,7,0):ByteArray×ByteArray×Int×Int).2.2.2])∧Below w.heap.size w w':=by
 have hba:=zaa (Below.refl w.heap.size w) (.cells #[.string ⟨#[]⟩,.string ⟨#[]⟩] 23)
 have hbk:=zaC w (.cells #[.string ⟨#[]⟩,.string ⟨#[]⟩] 23)
 have HF:∀ W,Calls Tryz.prog 143 #[.string s] W fun e w'=>∃ g,e = .returned (.tuple #[.pointer (some ⟨g,0,none⟩),.bool (f.end_ s)])∧FSt W w' g s f:=fun W=>by
  subst hf
  exact zbJ s W hs
 have hsI:¬ (65536:Int)<(s.size:Int):=by omega
 rw [he] at HF
 have HDC:=fun (W W':World) (g:Nat) (h:FSt W W' g s f)=>zdk W W' g s f h hg.m (by have:=hg.mz; omega) hg.x (by have:=hg.xz; omega) (by have:=hg.bh; omega)
 clear hf he hg
 go_enter Tryz.func59,Tryz.ntmps59
 go_wp2_with fail
 generalize w.alloc (.cells #[.string ⟨#[]⟩,.string ⟨#[]⟩] 23)=W0 at *
 generalize hBe:w.heap.size=B0 at hbk ⊢
 have HBE:=Lib.hid (show w.heap.size≤B0 by omega)
 clear hBe
 refine (HF _).mono ?_
 rintro e w1 ⟨g,rfl,h1⟩
 have hB1:=bthen hba h1.below
 have hbk1:=(h1.below.block _ (zar hbk)).trans hbk
 have hgB:B0<g:=Nat.lt_of_lt_of_le (zar hbk) h1.ge
 clear HF hba hbk
 have c9:=h1.c 9 (.bool f.fraction) rfl
 rw [hfr] at c9
 have c3a:=h1.c 3 (.bool f.neg) rfl
 have HDC1:=Lib.hid (HDC _ _ _ h1)
 have hgl:=zar h1.blk
 have hbg:=h1.blk
 clear h1 hfr HDC
 go_wp2_with fail
 refine HDC1.out.mono ?_
 rw [hd]
 rintro e w2 ⟨rfl,hb2⟩
 have hB2:=bthen hB1 hb2
 have hbk2:=(hb2.block _ (zar hbk1)).trans hbk1
 clear hB1 hbk1 hb2 hbg c3a c9 HDC1
 have cB0:=(zaf hbk2 0).trans (show _=some (Value.string ⟨#[]⟩) from rfl)
 have cB1:=(zaf hbk2 1).trans (show _=some (Value.string ⟨#[]⟩) from rfl)
 have fB0:=zae hbk2 0
 have fB1:=zae hbk2 1
 have hs1:=zaw hbk2 0 (.string ⟨#[]⟩)
 have hs2:=zaw hs1 1 (.string ⟨#[]⟩)
 have HS2:=Lib.hid (hs2.trans (show _=some (Obj.cells #[.string ⟨#[]⟩,.string ⟨#[]⟩] 23 (0,0)) from rfl))
 have HBF:=Lib.hid (zag (zag (g:=B0) (j:=0) (v:=.string ⟨#[]⟩) hB2 HBE.out) (j:=1) (v:=.string ⟨#[]⟩) (g:=B0) HBE.out)
 clear hs1 hs2 hbk2
 go_wp2
 refine bodyPost_ret (za2 rfl _ _ B0 23 #[.string ⟨#[]⟩,.string ⟨#[]⟩] (0,0) _ rfl HS2.out Tryz.underlying23 rfl (by kernel_rfl)) rfl ?_
 exact ⟨rfl,HBF.out⟩
theorem parse_dec (s:ByteArray) (w:World) (hs:s.size≤65536) (f:Fm) (hf:formF s=f) (hg:Gd s f) (he:f.end_ s=true) (hfr:f.fraction=false) (x:Rat) (hd:decF f=some x) :
  Calls Tryz.prog 59 #[.string s] w fun e w'=>e = .returned (.tuple #[.agg #[.string ((toldR (signed f x)).1,(toldR (signed f x)).2.1,(toldR (signed f x)).2.2,(0:Int)).1,.string ((toldR (signed f x)).1,(toldR (signed f x)).2.1,(toldR (signed f x)).2.2,(0:Int)).2.1],.int .i64 ((toldR (signed f x)).1,(toldR (signed f x)).2.1,(toldR (signed f x)).2.2,(0:Int)).2.2.1,.int .i64 ((toldR (signed f x)).1,(toldR (signed f x)).2.1,(toldR (signed f x)).2.2,(0:Int)).2.2.2])∧Below w.heap.size w w':=by
 have hba:=zaa (Below.refl w.heap.size w) (.cells #[.string ⟨#[]⟩,.string ⟨#[]⟩] 23)
 have hbk:=zaC w (.cells #[.string ⟨#[]⟩,.string ⟨#[]⟩] 23)
 have HF:∀ W,Calls Tryz.prog 143 #[.string s] W fun e w'=>∃ g,e = .returned (.tuple #[.pointer (some ⟨g,0,none⟩),.bool (f.end_ s)])∧FSt W w' g s f:=fun W=>by
  subst hf
  exact zbJ s W hs
 have hsI:¬ (65536:Int)<(s.size:Int):=by omega
 rw [he] at HF
 have HDC:=fun (W W':World) (g:Nat) (h:FSt W W' g s f)=>zdk W W' g s f h hg.m (by have:=hg.mz; omega) hg.x (by have:=hg.xz; omega) (by have:=hg.bh; omega)
 clear hf he hg
 go_enter Tryz.func59,Tryz.ntmps59
 go_wp2_with fail
 generalize w.alloc (.cells #[.string ⟨#[]⟩,.string ⟨#[]⟩] 23)=W0 at *
 generalize hBe:w.heap.size=B0 at hbk ⊢
 have HBE:=Lib.hid (show w.heap.size≤B0 by omega)
 clear hBe
 refine (HF _).mono ?_
 rintro e w1 ⟨g,rfl,h1⟩
 have hB1:=bthen hba h1.below
 have hbk1:=(h1.below.block _ (zar hbk)).trans hbk
 have hgB:B0<g:=Nat.lt_of_lt_of_le (zar hbk) h1.ge
 clear HF hba hbk
 have c9:=h1.c 9 (.bool f.fraction) rfl
 rw [hfr] at c9
 have c3a:=h1.c 3 (.bool f.neg) rfl
 have HDC1:=Lib.hid (HDC _ _ _ h1)
 have hgl:=zar h1.blk
 have hbg:=h1.blk
 clear h1 hfr HDC
 go_wp2_with fail
 refine HDC1.out.mono ?_
 rw [hd]
 rintro e w2 ⟨z,rfl,hz,hx2,hbd,hb2⟩
 have hB2:=bthen hB1 hb2
 have hbk2:=(hb2.block _ (zar hbk1)).trans hbk1
 have c3:=(zaf ((hb2.block _ hgl).trans hbg) 3).trans (show _=some (Value.bool f.neg) from rfl)
 have hB1s:=hB1.size
 have HBX:=Lib.hid hbd
 have HZ:=Lib.hid (show w.heap.size≤z by omega)
 have HZB:=Lib.hid (show B0<z by have:=zar hbk1; omega)
 have hu112:=Tryz.underlying112
 clear hB1 hbk1 hb2 hbg c3a c9 HDC1 hbd hB1s hd
 cases hng:f.neg
 ·rw [hng] at c3
  have HV:=Lib.hid (show signed f (x)=x by unfold signed; rw [hng]; rfl)
  clear hng
  go_wp2_with fail
  refine (zcg z (x) _ hx2 HBX.out (by unfold big; omega)).mono ?_
  rintro e wt ⟨rfl,hbt⟩
  have hBt:=bthen hB2 hbt
  have hbkt:=(hbt.block _ (zar hbk2)).trans hbk2
  clear hx2 hB2 hbk2 hbt
  clear c3
  generalize htt:toldR (x)=tt
  have HTT:=Lib.hid (show toldR (signed f (x))=tt by rw [HV.out]; exact htt)
  clear htt HV
  have hbr:=zaa (Below.refl wt.heap.size wt) (.cells #[.string tt.1,.string tt.2.1] 23)
  have hBr:=bthen hBt hbr
  have hbkr:=(hbr.block _ (zar hbkt)).trans hbkt
  have hkr:=zaC wt (.cells #[.string tt.1,.string tt.2.1] 23)
  have hne:wt.heap.size≠B0:=by have:=zar hbkt; omega
  clear hBt hbkt hbr hkr hne
  have cB0:=(zaf hbkr 0).trans (show _=some (Value.string ⟨#[]⟩) from rfl)
  have cB1:=(zaf hbkr 1).trans (show _=some (Value.string ⟨#[]⟩) from rfl)
  have fB0:=zae hbkr 0
  have fB1:=zae hbkr 1
  have hs1:=zaw hbkr 0 (.string tt.1)
  have hs2:=zaw hs1 1 (.string tt.2.1)
  have HS2:=Lib.hid (hs2.trans (show _=some (Obj.cells #[.string tt.1,.string tt.2.1] 23 (0,0)) from rfl))
  have HBF:=Lib.hid (zag (zag (g:=B0) (j:=0) (v:=.string tt.1) hBr HBE.out) (j:=1) (v:=.string tt.2.1) (g:=B0) HBE.out)
  clear hs1 hs2 hbkr
  go_wp2
  refine bodyPost_ret (za2 rfl _ _ B0 23 #[.string tt.1,.string tt.2.1] (0,0) _ rfl HS2.out Tryz.underlying23 rfl (by kernel_rfl)) rfl ?_
  exact ⟨by rw [HTT.out]; rfl,HBF.out⟩
 ·rw [hng] at c3
  have HV:=Lib.hid (show signed f (x) = -(x) by unfold signed; rw [hng]; rfl)
  clear hng
  go_wp2_with fail
  refine (rneg_calls z z (x) _ hx2.slot hx2 HBX.out (by unfold big; omega)).mono ?_
  rintro e wn ⟨rfl,hxn,hun⟩
  have hBn:=hun.new hB2 HZ.out
  have hbkn:=(hun.other _ (zar hbk2) (by have:=HZB.out; omega)).trans hbk2
  have hbn:=Lib.hid (HBX.out.neg)
  clear hx2 hB2 hbk2 hun c3
  go_wp2_with fail
  refine (zcg z (-(x)) _ hxn hbn.out (by unfold big; omega)).mono ?_
  rintro e wt ⟨rfl,hbt⟩
  have hBt:=bthen hBn hbt
  have hbkt:=(hbt.block _ (zar hbkn)).trans hbkn
  clear hxn hBn hbkn hbt
  generalize htt:toldR (-(x))=tt
  have HTT:=Lib.hid (show toldR (signed f (x))=tt by rw [HV.out]; exact htt)
  clear htt HV
  have hbr:=zaa (Below.refl wt.heap.size wt) (.cells #[.string tt.1,.string tt.2.1] 23)
  have hBr:=bthen hBt hbr
  have hbkr:=(hbr.block _ (zar hbkt)).trans hbkt
  have hkr:=zaC wt (.cells #[.string tt.1,.string tt.2.1] 23)
  have hne:wt.heap.size≠B0:=by have:=zar hbkt; omega
  clear hBt hbkt hbr hkr hne
  have cB0:=(zaf hbkr 0).trans (show _=some (Value.string ⟨#[]⟩) from rfl)
  have cB1:=(zaf hbkr 1).trans (show _=some (Value.string ⟨#[]⟩) from rfl)
  have fB0:=zae hbkr 0
  have fB1:=zae hbkr 1
  have hs1:=zaw hbkr 0 (.string tt.1)
  have hs2:=zaw hs1 1 (.string tt.2.1)
  have HS2:=Lib.hid (hs2.trans (show _=some (Obj.cells #[.string tt.1,.string tt.2.1] 23 (0,0)) from rfl))
  have HBF:=Lib.hid (zag (zag (g:=B0) (j:=0) (v:=.string tt.1) hBr HBE.out) (j:=1) (v:=.string tt.2.1) (g:=B0) HBE.out)
  clear hs1 hs2 hbkr
  go_wp2
  refine bodyPost_ret (za2 rfl _ _ B0 23 #[.string tt.1,.string tt.2.1] (0,0) _ rfl HS2.out Tryz.underlying23 rfl (by kernel_rfl)) rfl ?_
  exact ⟨by rw [HTT.out]; rfl,HBF.out⟩
noncomputable def rat_Parse.f (a0:ByteArray):Option (ByteArray×ByteArray×Int×Int):=some (parseF a0)
theorem parse_walk (s:ByteArray) (w:World) :
  Calls Tryz.prog 59 #[.string s] w fun e w'=>e = .returned (.tuple #[.agg #[.string (parseF s).1,.string (parseF s).2.1],.int .i64 (parseF s).2.2.1,.int .i64 (parseF s).2.2.2])∧Below w.heap.size w w':=by
 by_cases hs:65536<s.size
 ·rw [show parseF s=_ from if_pos hs]; exact parse_size s w hs
 ·have hs':s.size≤65536:=by omega
  have hg:=formF_ok s
  obtain ⟨f,hf⟩:∃ f,formF s=f:=⟨_,rfl⟩
  rw [hf] at hg
  unfold parseF
  rw [if_neg hs,hf]
  cases he:f.end_ s
  ·rw [if_pos rfl]; exact parse_form s w hs' f hf he
  ·rw [if_neg (by decide)]
   cases hfr:f.fraction
   ·rw [if_neg (by decide)]
    cases hd:decF f with
    | none=>exact parse_dlarge s w hs' f hf hg he hfr hd
    | some x=>exact parse_dec s w hs' f hf hg he hfr x hd
   ·rw [if_pos rfl]
    by_cases hB:dval f.den.data.toList=0
    ·rw [if_pos hB]; exact parse_zero s w hs' f hf hg he hfr hB
    ·rw [if_neg hB]
     by_cases hl:600<(T (dval f.m.data.toList)).size∨600<(T (dval f.den.data.toList)).size
     ·rw [show fracF f=none from if_pos hl]; exact parse_large s w hs' f hf hg he hfr hB hl
     ·rw [show fracF f=some _ from if_neg hl]; exact parse_frac s w hs' f hf hg he hfr hB hl
theorem rat_Parse.calls (a0:ByteArray) (r1 r2:ByteArray) (r3 r4:Int) (w:World) (h:rat_Parse.f a0=some (r1,r2,r3,r4)) :
  Calls Tryz.prog 59 #[.string a0] w fun e w'=>e = .returned (.tuple #[.agg #[.string r1,.string r2],.int .i64 r3,.int .i64 r4])∧Below w.heap.size w w':=by
 have h:=Option.some.inj h
 have:=parse_walk a0 w
 rw [h] at this
 exact this
end Go.Proofs.ZQ
end
section
namespace Go.Proofs.ZQ
open Go.RowKit Go.Proofs.ZW.Wa Go.Proofs.ZW.Wb Go.Proofs.ZW.Wc
attribute [local go_sem] zaI zaG zaS zaR zaB zaA zaH zaF
theorem eqA23 (d:Nat) (w:World) (x0 y0:ByteArray) (x1 y1:ByteArray) :
  (Op.equalIn (d+2) 23 (.agg #[.string x0,.string x1]) (.agg #[.string y0,.string y1])).run Tryz.prog w = .ok (x0.toList == y0.toList && (x1.toList == y1.toList)) w:=by
 refine eqA_of Tryz.underlying23 (by kernel_rfl) ?_
 refine eqf_cons (by rfl) (by go_simp; rfl) (by go_simp; rfl) (by go_simp) ?_
 exact eqf_last (by rfl) (by go_simp; rfl) (by go_simp; rfl) (by go_simp)
end Go.Proofs.ZQ
end
section
namespace Go.Proofs.ZQ
open Go.RowKit Go.Proofs.ZW.Wa Go.Proofs.ZW.Wb Go.Proofs.ZW.Wc
attribute [local go_sem] zaI zaG zaS zaR zaB zaA zaH zaF
attribute [local go_sem high] eqA23
noncomputable def l2_awake.f  : Option (Bool):=(rat_Parse.f (⟨#[45,49,46,50,53,48,101,45,49]⟩:ByteArray)).bind fun bt540=>((rat_Digits.f (⟨#[50,50]⟩:ByteArray) (⟨#[55]⟩:ByteArray) 4).bind fun bt545=>(if bt540.2.2.1=0 then (if bt540.2.2.2=0 then (if (bt540.1.toList == ([45,49]:List UInt8) && (bt540.2.1.toList == ([56]:List UInt8)))=true then (if bt545.1.toList=([51,46,49,52,50,57]:List UInt8) then (some (bt545.2 == 0)) else (some false)) else (some false)) else (some false)) else (some false)))
end Go.Proofs.ZQ
end
section
namespace Go.Proofs.ZQ
open Go.RowKit Go.Proofs.ZW.Wa Go.Proofs.ZP
theorem zc4 {n:Nat} (h:n<10^20):n<10^600:=Nat.lt_of_lt_of_le h (Nat.pow_le_pow_right (by decide) (by decide))
theorem small_size {n:Nat} (h:n<10^20):¬ 600<(T n).size:=Nat.not_lt.2 ((zax (by decide)).2 (zc4 h))
theorem T_lit (s:ByteArray) (n:Nat) (hd:dval s.data.toList=n) (h:ZP.Can s.data.toList):T n=s:=by
 subst hd; exact (can_T h).symm
theorem can_of {l:List UInt8} (h:(decide (0<l.length) && l.all (fun c=>decide (48≤c.toNat) && decide (c.toNat≤57)) && (decide (l.head? ≠ some 48) || decide (l.length=1)))=true):ZP.Can l:=by
 simp only [Bool.and_eq_true,Bool.or_eq_true,decide_eq_true_eq,List.all_eq_true] at h
 exact ⟨h.1.1,fun c hc=>h.1.2 c hc,fun e=>h.2.elim (fun k=>absurd e k) id⟩
theorem T8:T 8=⟨#[56]⟩:=T_lit _ _ rfl (can_of (by decide))
theorem T22:T 22=⟨#[50,50]⟩:=T_lit _ _ rfl (can_of (by decide))
theorem T7:T 7=⟨#[55]⟩:=T_lit _ _ rfl (can_of (by decide))
theorem T31429:T 31429=⟨#[51,49,52,50,57]⟩:=T_lit _ _ rfl (can_of (by decide))
def awS:ByteArray:=⟨#[45,49,46,50,53,48,101,45,49]⟩
def awF:Fm:=⟨9,false,true,⟨#[49,50,53,48]⟩,3,⟨#[49]⟩,true,⟨#[]⟩,false,0⟩
theorem aw_form:formF awS=awF:=by kernel_rfl
theorem aw_val:signed awF (((1250:Int):Rat)*tenR (-4))=Rat.divInt (-1) 8:=by kernel_rfl
theorem aw_dec:decF awF=some (((1250:Int):Rat)*tenR (-4)):=by
 have e1:expE awF=some (-1):=by kernel_rfl
 have e2:dval awF.m.data.toList=1250:=by kernel_rfl
 unfold decF
 rw [e1,e2,Option.bind_some]
 refine za5 ?_
 rintro (h|h|h)
 ·exact small_size (by decide) h
 ·exact absurd h.2 (by decide)
 ·exact absurd h.1 (by decide)
theorem aw_parse:rat_Parse.f ⟨#[45,49,46,50,53,48,101,45,49]⟩=some (⟨#[45,49]⟩,⟨#[56]⟩,0,0):=by
 have hn:(Rat.divInt (-1) 8).num = -1:=by decide
 have hd:(Rat.divInt (-1) 8).den=8:=by decide
 have ht:toldR (Rat.divInt (-1) 8)=(⟨#[45,49]⟩,⟨#[56]⟩,0):=by
  unfold toldR
  have hs:Sm (Rat.divInt (-1) 8):=by
   unfold Sm
   rw [hn,hd]
   exact ⟨zc4 (by decide),zc4 (by decide)⟩
  rw [if_pos hs,hn,hd,T8,wtext_neg (by decide)]
  show ((⟨#[45]⟩:ByteArray)++T 1,(⟨#[56]⟩:ByteArray),(0:Int))=_
  rw [T_one]; rfl
 show some (parseF awS)=_
 refine congrArg some ?_
 unfold parseF
 have h1:¬ 65536<awS.size:=by decide
 have h2:awF.end_ awS=true:=by kernel_rfl
 have h3:awF.fraction=false:=rfl
 rw [if_neg h1,aw_form,h2,if_neg (by decide),h3,if_neg (by decide),aw_dec]
 show ((toldR (signed awF _)).1,(toldR (signed awF _)).2.1,(toldR (signed awF _)).2.2,(0:Int))=_
 rw [aw_val,ht]
theorem aw_digits:rat_Digits.f ⟨#[50,50]⟩ ⟨#[55]⟩ 4=some (⟨#[51,46,49,52,50,57]⟩,0):=by
 have hn:(Rat.divInt 22 7).num=22:=by decide
 have hd:(Rat.divInt 22 7).den=7:=by decide
 have hr:RR ⟨#[50,50]⟩ ⟨#[55]⟩ (Rat.divInt 22 7):=by
  refine ⟨?_,?_,?_,?_⟩
  ·rw [hn,zaU (by decide)]; exact T22.symm
  ·rw [hd]; exact T7.symm
  ·rw [hn]; exact zc4 (by decide)
  ·rw [hd]; exact zc4 (by decide)
 have he:∃ x,RR ⟨#[50,50]⟩ ⟨#[55]⟩ x:=⟨_,hr⟩
 have ev:evenR (Rat.divInt 22 7*tenR 4)=31429:=by kernel_rfl
 unfold rat_Digits.f
 rw [dif_pos he,←RR.uniq hr he.choose_spec]
 unfold digR
 rw [if_neg (by decide),ev,if_neg (small_size (by decide))]
 refine congrArg some ?_
 have:dgt 31429 4=⟨#[51,46,49,52,50,57]⟩:=by
  unfold dgt
  rw [if_neg (by decide)]
  show ptT (padT (T 31429) 4) 4=_
  rw [T31429]; kernel_rfl
 show (dgt 31429 4,(0:Int))=_
 rw [this]
theorem awake_f:l2_awake.f=some true:=by
 unfold l2_awake.f
 rw [aw_parse,Option.bind_some,aw_digits,Option.bind_some]
 have e1:(((⟨#[45,49]⟩:ByteArray).toList == ([45,49]:List UInt8)) && ((⟨#[56]⟩:ByteArray).toList == ([56]:List UInt8)))=true:=by
  rw [ba_toList,ba_toList]; rfl
 have e2:(⟨#[51,46,49,52,50,57]⟩:ByteArray).toList=([51,46,49,52,50,57]:List UInt8):=by rw [ba_toList]
 rw [if_pos rfl,if_pos rfl,if_pos e1,if_pos e2]; rfl
end Go.Proofs.ZQ
end
section
namespace Go.Proofs.ZQ
open Go.RowKit Go.Proofs.ZW.Wa Go.Proofs.ZW.Wb Go.Proofs.ZW.Wc
attribute [local go_sem] zaI zaG zaS zaR zaB zaA zaH zaF
attribute [local go_sem high] eqA23
theorem l2_awake.callsT  (r:Bool) (w:World) (h:l2_awake.f  = some r) (hr:r=true) :
  Calls Tryz.prog 32 #[] w fun e w'=>e = .returned (.bool r)∧Below w.heap.size w w':=by
 have hu23:=Tryz.underlying23
 have HB:=Aside0.mk (Below.refl w.heap.size w)
 have H:((rat_Parse.f (⟨#[45,49,46,50,53,48,101,45,49]⟩:ByteArray)).bind fun bt540=>((rat_Digits.f (⟨#[50,50]⟩:ByteArray) (⟨#[55]⟩:ByteArray) 4).bind fun bt545=>(if bt540.2.2.1=0 then (if bt540.2.2.2=0 then (if (bt540.1.toList == ([45,49]:List UInt8) && (bt540.2.1.toList == ([56]:List UInt8)))=true then (if bt545.1.toList=([51,46,49,52,50,57]:List UInt8) then (some (bt545.2 == 0)) else (some false)) else (some false)) else (some false)) else (some false))))=some r:=h
 clear h
 replace H:=Option.bind_eq_some_iff.mp H
 obtain ⟨⟨t540,t541,t542,t543⟩,A10,H⟩:=H
 replace H:((rat_Digits.f (⟨#[50,50]⟩:ByteArray) (⟨#[55]⟩:ByteArray) 4).bind fun bt545=>(if t542=0 then (if t543=0 then (if (t540.toList == ([45,49]:List UInt8) && (t541.toList == ([56]:List UInt8)))=true then (if bt545.1.toList=([51,46,49,52,50,57]:List UInt8) then (some (bt545.2 == 0)) else (some false)) else (some false)) else (some false)) else (some false)))=some r:=H
 have A1:=Aside0.mk A10
 clear A10
 replace H:=Option.bind_eq_some_iff.mp H
 obtain ⟨⟨t545,t546⟩,A20,H⟩:=H
 replace H:(if t542=0 then (if t543=0 then (if (t540.toList == ([45,49]:List UInt8) && (t541.toList == ([56]:List UInt8)))=true then (if t545.toList=([51,46,49,52,50,57]:List UInt8) then (some (t546 == 0)) else (some false)) else (some false)) else (some false)) else (some false))=some r:=H
 have A2:=Aside0.mk A20
 clear A20
 by_cases c3:t542=0
 ·rw [if_pos c3] at H
  have c3b0:(t542 == 0)=true:=beq_iff_eq.mpr c3
  have c3b1:(t542 != 0)=false:=bne_eq_false_iff_eq.mpr c3
  clear c3
  by_cases c4:t543=0
  ·rw [if_pos c4] at H
   have c4b0:(t543 == 0)=true:=beq_iff_eq.mpr c4
   have c4b1:(t543 != 0)=false:=bne_eq_false_iff_eq.mpr c4
   clear c4
   by_cases c5:(t540.toList == ([45,49]:List UInt8) && (t541.toList == ([56]:List UInt8)))=true
   ·rw [if_pos c5] at H
    have c5b0:(t540.toList == ([45,49]:List UInt8) && (t541.toList == ([56]:List UInt8)))=true:=c5
    (try (have c5b1:decide (t540.toList=([45,49]:List UInt8) && (t541.toList == ([56]:List UInt8)))=true:=by simpa using c5))
    clear c5
    by_cases c6:t545.toList=([51,46,49,52,50,57]:List UInt8)
    ·rw [if_pos c6] at H
     have c6b0:(t545.toList == ([51,46,49,52,50,57]:List UInt8))=true:=beq_iff_eq.mpr c6
     have c6b1:(t545.toList != ([51,46,49,52,50,57]:List UInt8))=false:=bne_eq_false_iff_eq.mpr c6
     clear c6
     obtain rfl:=Option.some.inj H; clear hr
     go_enter Tryz.func32,Tryz.ntmps32
     go_wp2_with (first|((with_reducible refine zas (f:=59) rfl ?_); refine zaZ (some 7) rfl rfl Tryz.func59 (by kernel_rfl) rfl #[.string (⟨#[45,49,46,50,53,48,101,45,49]⟩:ByteArray)] rfl (by (try simp only [List.map_toArray,List.map_cons,List.map_nil]); first|done|rfl|(simp only [List.length_drop,List.length_take]; rfl)) ?_; (with_reducible refine (rat_Parse.calls (⟨#[45,49,46,50,53,48,101,45,49]⟩:ByteArray) t540 t541 t542 t543 _ A1.out).mono ?_); rintro e w7 ⟨rfl,hb⟩; refine ⟨_,rfl,?_⟩; have n0_:=Aside0.mk (zam (by repeat (first|(with_reducible first|exact HB.out|apply zaa|apply zab|apply zac)|exact HB.out)) hb); clear HB; have HB:=n0_; clear n0_; (try clear hb); (try clear hb2); (try clear hk); (try clear hi))|((with_reducible refine zaO (N:=1) rfl ?_); refine za9 ?hg (N:=1) ?hd (cs:=#[.string (⟨#[]⟩:ByteArray),.string (⟨#[]⟩:ByteArray)]) (t:=23) ?hr ?_; (case hd=>rfl); (case hg=>rfl); (case hr=>first|(go_simp; done)|(go_simp; rfl)); intro gb544 hg w8 hbox hb; have n0_:=Aside0.mk (zam (by repeat (first|(with_reducible first|exact HB.out|apply zaa|apply zab|apply zac)|exact HB.out)) hb); have n1_:=Aside0.mk (hbox); have n2_:=Aside0.mk ((by rw [hg]; exact (zan (by repeat (first|(with_reducible first|exact HB.out|apply zaa|apply zab|apply zac)|exact HB.out))):w.heap.size≤gb544)); have n3_:=Aside0.mk ((by rw [hg]; exact (zan (by repeat (first|(with_reducible first|exact HB.out|apply zaa|apply zab|apply zac)|exact HB.out))):w.heap.size≤gb544)); clear HB; have HB:=n0_; have BK544:=n1_; have GW544:=n2_; have GE544:=n3_; clear n0_ n1_ n2_ n3_; clear hb hbox hg; have hcz9_0:w8.cell? ⟨gb544,0,none⟩=some (.string (⟨#[]⟩:ByteArray)):=(zaf BK544.out 0).trans rfl; have hcz9_1:w8.cell? ⟨gb544,1,none⟩=some (.string (⟨#[]⟩:ByteArray)):=(zaf BK544.out 1).trans rfl; have hfz9_0:=zae BK544.out 0; have hfz9_1:=zae BK544.out 1)|((with_reducible refine zas (f:=31) rfl ?_); refine zaZ (some 13) rfl rfl Tryz.func31 (by kernel_rfl) rfl #[.agg #[.string (⟨#[50,50]⟩:ByteArray),.string (⟨#[55]⟩:ByteArray)],.int .i64 4] rfl (by (try simp only [List.map_toArray,List.map_cons,List.map_nil]); first|done|rfl|(simp only [List.length_drop,List.length_take]; rfl)) ?_; (with_reducible refine (rat_Digits.calls (⟨#[50,50]⟩:ByteArray) (⟨#[55]⟩:ByteArray) 4 t545 t546 _ A2.out).mono ?_); rintro e w10 ⟨rfl,hb⟩; refine ⟨_,rfl,?_⟩; have n0_:=Aside0.mk (zav (g:=gb544) (o:=.cells #[.string t540,.string t541] 23 (0,0)) (by (with_reducible repeat (first|refine zah ?_ _|refine zaj ?_|refine zai ?_ _)); refine zaE (cs:=#[.string t540,.string (⟨#[]⟩:ByteArray)]) ?_ 1 _ rfl; (with_reducible repeat (first|refine zah ?_ _|refine zaj ?_|refine zai ?_ _)); refine zaE (cs:=#[.string (⟨#[]⟩:ByteArray),.string (⟨#[]⟩:ByteArray)]) ?_ 0 _ rfl; (with_reducible repeat (first|refine zah ?_ _|refine zaj ?_|refine zai ?_ _)); exact BK544.out) hb); have n1_:=Aside0.mk (zam (by repeat (first|(with_reducible first|exact HB.out|apply zaa|apply zab|apply zac|refine zag ?_ GE544.out)|exact HB.out)) hb); clear BK544; clear HB; have BK544:=n0_; have HB:=n1_; clear n0_ n1_; (try clear hb); (try clear hb2); (try clear hk); (try clear hi); have hcz11_0:w10.cell? ⟨gb544,0,none⟩=some (.string t540):=(zaf BK544.out 0).trans rfl; have hcz11_1:w10.cell? ⟨gb544,1,none⟩=some (.string t541):=(zaf BK544.out 1).trans rfl; have hfz11_0:=zae BK544.out 0; have hfz11_1:=zae BK544.out 1))
     go_ret
     exact ⟨by first|rfl|(simp [zal,zak]<;>rfl)|(simp [*,zal,zak]<;>rfl),by repeat (first|(with_reducible first|exact HB.out|apply zaa|apply zab|apply zac|refine zag ?_ GE544.out)|exact HB.out)⟩
    ·rw [if_neg c6] at H
     exact absurd ((Option.some.inj H).trans hr) (by decide)
   ·rw [if_neg c5] at H
    exact absurd ((Option.some.inj H).trans hr) (by decide)
  ·rw [if_neg c4] at H
   exact absurd ((Option.some.inj H).trans hr) (by decide)
 ·rw [if_neg c3] at H
  exact absurd ((Option.some.inj H).trans hr) (by decide)
end Go.Proofs.ZQ
end
section
namespace Go.Proofs.ZQ
open Go.RowKit Go.Proofs.ZW.Wa
theorem awakeT_calls (r:Bool) (w:World) (h:l2_awake.f=some r) :
  Calls Tryz.prog 32 #[] w fun e w'=>e = .returned (.bool r)∧Below w.heap.size w w':=
 l2_awake.callsT r w h (Option.some.inj (h.symm.trans awake_f))
end Go.Proofs.ZQ
end
section
namespace Go.Proofs.ZQ
open Go.RowKit Go.Proofs.ZW.Wa Go.Proofs.ZP Go.Proofs.ZW.Wb Go.Proofs.ZW.Wc
theorem sums_walk (A:Option Addr) (c:Nat) (ps:List (ByteArray×ByteArray)) (s1 s2 p1 p2:ByteArray) (s3 p3:Int) (w:World) (hr:RowR w A ps) (H1:∀ W:World,RowR W A ps→Calls Tryz.prog 39 #[.slice A ps.length c] W fun e w'=>e = .returned (.tuple #[.agg #[.string s1,.string s2],.int .i64 s3])∧Below W.heap.size W w') (H2:∀ W:World,RowR W A ps→Calls Tryz.prog 40 #[.slice A ps.length c] W fun e w'=>e = .returned (.tuple #[.agg #[.string s1,.string s2],.int .i64 s3])∧Below W.heap.size W w') (H3:∀ W:World,RowR W A ps→Calls Tryz.prog 41 #[.slice A ps.length c] W fun e w'=>e = .returned (.tuple #[.agg #[.string p1,.string p2],.int .i64 p3])∧Below W.heap.size W w') (H4:∀ W:World,RowR W A ps→Calls Tryz.prog 42 #[.slice A ps.length c] W fun e w'=>e = .returned (.tuple #[.agg #[.string p1,.string p2],.int .i64 p3])∧Below W.heap.size W w') (HW:Ans 32 #[] (.bool true)) :
  Calls Tryz.prog 7 #[.slice A ps.length c] w fun e w'=>e = .returned (.bool true)∧Below w.heap.size w w':=by
 have HR:=Lib.hid hr
 have H1:=Lib.hid H1
 have H2:=Lib.hid H2
 have H3:=Lib.hid H3
 have H4:=Lib.hid H4
 have HW:=Lib.hid HW
 have HBA:=Lib.hid (Below.refl w.heap.size w)
 clear hr
 go_enter Tryz.func7,Tryz.ntmps7
 go_wp2_with fail
 refine (H1.out _ HR.out).mono ?_
 rintro e w1 ⟨rfl,hb1⟩
 have hba1:=zaa (Below.refl w1.heap.size w1) (.cells #[.string s1,.string s2] 23)
 have HX1:=Lib.hid (RbAt.new w1 s1 s2)
 replace HR:=Lib.hid ((HR.out.below hb1).below hba1)
 replace HBA:=Lib.hid (bthen (bthen HBA.out hb1) hba1)
 clear hb1 hba1
 go_wp2_with fail
 refine (H2.out _ HR.out).mono ?_
 rintro e w2 ⟨rfl,hb2⟩
 have hba2:=zaa (Below.refl w2.heap.size w2) (.cells #[.string s1,.string s2] 23)
 have HX2:=Lib.hid (RbAt.new w2 s1 s2)
 replace HX1:=Lib.hid ((HX1.out.below hb2).below hba2)
 replace HR:=Lib.hid ((HR.out.below hb2).below hba2)
 replace HBA:=Lib.hid (bthen (bthen HBA.out hb2) hba2)
 clear hb2 hba2
 go_wp2_with fail
 refine (H3.out _ HR.out).mono ?_
 rintro e w3 ⟨rfl,hb3⟩
 have hba3:=zaa (Below.refl w3.heap.size w3) (.cells #[.string p1,.string p2] 23)
 have HX3:=Lib.hid (RbAt.new w3 p1 p2)
 replace HX1:=Lib.hid ((HX1.out.below hb3).below hba3)
 replace HX2:=Lib.hid ((HX2.out.below hb3).below hba3)
 replace HR:=Lib.hid ((HR.out.below hb3).below hba3)
 replace HBA:=Lib.hid (bthen (bthen HBA.out hb3) hba3)
 clear hb3 hba3
 go_wp2_with fail
 refine (H4.out _ HR.out).mono ?_
 rintro e w4 ⟨rfl,hb4⟩
 have hba4:=zaa (Below.refl w4.heap.size w4) (.cells #[.string p1,.string p2] 23)
 have HX4:=Lib.hid (RbAt.new w4 p1 p2)
 replace HX1:=Lib.hid ((HX1.out.below hb4).below hba4)
 replace HX2:=Lib.hid ((HX2.out.below hb4).below hba4)
 replace HX3:=Lib.hid ((HX3.out.below hb4).below hba4)
 replace HR:=Lib.hid ((HR.out.below hb4).below hba4)
 replace HBA:=Lib.hid (bthen (bthen HBA.out hb4) hba4)
 clear hb4 hba4
 have c1:=HX1.out.c0
 have d1:=HX1.out.c1
 have c2:=HX2.out.c0
 have d2:=HX2.out.c1
 have c3:=HX3.out.c0
 have d3:=HX3.out.c1
 have c4:=HX4.out.c0
 have d4:=HX4.out.c1
 go_wp2_with fail
 refine (HW.out _).mono ?_
 rintro e w9 ⟨rfl,hb9⟩
 replace HBA:=Lib.hid (bthen HBA.out hb9)
 clear hb9
 go_wp2
 go_ret
 exact ⟨rfl,HBA.out⟩
theorem RatSums_any (A:Option Addr) (c:Nat) (ps:List (ByteArray×ByteArray)) (w:World) (hr:RowR w A ps) (hn:ps.length≤1048576) :
  Calls Tryz.prog 7 #[.slice A ps.length c] w fun e w'=>e = .returned (.bool true)∧Below w.heap.size w w':=by
 obtain ⟨X,hx|⟨m,hm,hx,hno⟩⟩:=rr_all ps
 ·exact sums_walk A c ps _ _ _ _ _ _ w hr (fun W h=>Sum_yes A c ps X W h hn hx) (fun W h=>sum_ref_yes A c ps X W h hn hx) (fun W h=>Prod_yes A c ps X W h hn hx) (fun W h=>prod_ref_yes A c ps X W h hn hx) (fun W=>awakeT_calls true W awake_f)
 ·exact sums_walk A c ps _ _ _ _ _ _ w hr (fun W h=>Sum_no A c ps X m W h hn hm hx hno) (fun W h=>sum_ref_no A c ps X m W h hn hm hx hno) (fun W h=>Prod_no A c ps X m W h hn hm hx hno) (fun W h=>prod_ref_no A c ps X m W h hn hm hx hno) (fun W=>awakeT_calls true W awake_f)
end Go.Proofs.ZQ
end
