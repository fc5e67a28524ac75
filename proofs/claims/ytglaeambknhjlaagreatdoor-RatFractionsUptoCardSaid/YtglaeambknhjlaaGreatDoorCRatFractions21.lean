/- Texts under the proof, joined by a program (prune.py): LiftRatFractions. -/
import Derived.Test.YtglaeambknhjlaaGreatDoorRows
import Derived.Test.YtglaeambknhjlaaGreatDoorCards
import Derived.Test.YtglaeambknhjlaaGreatDoorTie
import Derived.Test.YtglaeambknhjlaaGreatDoorCRatFractions20
import Derived.WalkKit
import Derived.ProofKit
import Derived.OpenShut
import Derived.ShutString
import Derived.ChangeOld
import Derived.Below
import Derived.SizedLaws
import Derived.Lib.SmallJoins
import Derived.Lay
import Derived.LaidOnce
import Derived.SevenTiedAt
import Derived.Deep.Strs
import Derived.Deep.DeepHandedRow
import Derived.WideKeyArgs
set_option linter.unusedVariables false
set_option linter.unusedSimpArgs false
set_option exponentiation.threshold 20001
set_option maxHeartbeats 8000000
set_option maxRecDepth 100000
section
namespace Go.Proofs.YtglaeambknhjlaaGreatDoor.ratFractions
open Go.ChangeShapes Go.WideShapes Go.ChangeAt Go.RowKit Go.Joins Go.Lib Go.Deep
open Go.ChangeMaps (open_string shut_string)
theorem own:ownKnob Tryz.prog.godebug=none:=by kernel_rfl
theorem cellsR:Tryz.prog.cellsOf 23=2:=by kernel_rfl
theorem cellsS:Tryz.prog.cellsOf 9=1:=by kernel_rfl
theorem laidB:laidOutB Tryz.prog=true:=by kernel_rfl
theorem bulk_one {H:Type} (d:DataW H):1≤Rows.uptoBulk d:=by
 cases d with
 | lit l=>cases l<;>simp [Rows.uptoBulk]
 | _=>simp [Rows.uptoBulk]
theorem bulk_len {H:Type} (l:List (DataW H)):l.length≤Rows.uptoBulkAll l:=by
 induction l with
 | nil=>simp [Rows.uptoBulkAll]
 | cons x r ih=>have:=bulk_one x; simp only [Rows.uptoBulkAll,List.length_cons]; omega
theorem bulk_part {H:Type} {d:DataW H} {l:List (DataW H)} (h:d∈l):Rows.uptoBulk d≤Rows.uptoBulkAll l:=by
 induction l with
 | nil=>cases h
 | cons x r ih =>
  simp only [Rows.uptoBulkAll]
  rcases List.mem_cons.1 h with rfl|e
  ·omega
  ·have:=ih e; omega
open Go.Proofs.ZW.Wa (Kd)
theorem texts_row {W:World} {A:Addr} {n:Nat} {Sx:Nat→ByteArray} (hm:n≤1048576) (h:∀ i,i<n→W.cell? (A.add i)=some (.string (Sx i))):Kd.C Kd.string W (some A) ((List.range n).map Sx).length ((List.range n).map Sx):=by
 refine ⟨rfl,?_,fun _=>⟨A,rfl,fun j x hj=>⟨[.string x],rfl,rfl,fun i u hu => ?_⟩⟩⟩
 ·rw [List.length_map,List.length_range]; omega
 ·obtain ⟨hl,e⟩:=List.getElem?_eq_some_iff.1 hj
  rw [List.getElem_map,List.getElem_range] at e
  rw [List.length_map,List.length_range] at hl
  obtain ⟨hi,e2⟩:=List.getElem?_eq_some_iff.1 hu
  obtain rfl:i=0:=by simp at hi; omega
  have e3:Value.string x=u:=e2
  subst e3 e
  have h2:=h j hl
  rw [show j*Kd.string.sz+0=j from Nat.mul_one j]
  exact h2
theorem lifted (os:Os) (started:os.Started) (H:Type) (enc:TypeId×Value→H) (F:Stop.Interp) :
  ReturnsInHanded {} Tryz.checked os 10 .any ((Rows.OpenSpec.upto Rows.ratFractionsSpec).preRow enc Tryz.prog Tryz.f10 Rows.ratFractionsUptoRow.domain false Rows.ratFractionsUptoRow.laid) (((Rows.OpenSpec.upto Rows.ratFractionsSpec).at F).post enc Tryz.prog Tryz.f10 false true false false):=by
 refine returnsInHanded_of_row (C:=Tryz.checked) (s:=(Rows.OpenSpec.upto Rows.ratFractionsSpec)) own started (by kernel_rfl) Tryz.func10
  ⟨World.laidAll Tryz.prog os Rows.ratFractionsUptoRow.laid,fun _ _=>0,⟨#[],#[.agg #[.string ByteArray.empty,.string ByteArray.empty],.slice none 0 0],[]⟩,World.laidAll_os _ _ _,World.shaped_of_ZipB (by kernel_rfl) (by kernel_rfl),rfl,
   (Input.okWide_of_okWideB (by kernel_rfl)).2,OpenSpec.preRow_of_cond 8 (x:=([.agg [.lit (.string []),.lit (.string [])],.nil],[],[])) (by kernel_rfl) (by kernel_rfl) (fun k hk=>by cases hk; kernel_rfl) (by kernel_rfl)
    (by rw [MakeChecks.laidMetH_plain _ _ _ (by kernel_rfl)]; exact laidMet_laidAll _ (by kernel_rfl) (by kernel_rfl)),by
   simp only [Assume.holds]
   exact ⟨by simp,by simp,fun _=>Modest.zero,by simp,by simp⟩⟩ ?_
 intro W base args ds gs before hval0 hW _ hcond _ hL _ _
 have hval:∀ (j:Nat) t v,Tryz.f10.params[j]? = some t→args[j]? = some v→Value.okWide Tryz.prog W .any base t v:=hval0
 have hbulk:Rows.uptoBulkAll (ds++gs)≤1048576:=of_decide_eq_true (hcond _ rfl)
 have hlt:=DataW.Whole.lt hW
 have hW':=hW
 obtain ⟨p,q,hA0,hV,rfl,_,_⟩:=hW
 have hA:DataW.TrodAll enc Tryz.prog W 0 (fun _=>true) true Tryz.f10.params.toList args.toList ds p:=hA0
 rw [Tryz.params10] at hA hval
 obtain ⟨v0,vs0,d0,ds0,p0,q0,hargs,rfl,rfl,h0,r0⟩:=trodAll_cons hA
 obtain ⟨v1,vs1,d1,ds1,p1,q1,rfl,rfl,rfl,h1,r1⟩:=trodAll_cons r0
 obtain ⟨rfl,rfl,rfl⟩:=trodAll_nil r1
 obtain rfl:args = #[v0,v1]:=by cases args; simp_all
 obtain ⟨rfl,rfl⟩:=trodVars_none hV
 obtain ⟨c0,e0,y0,z0,m0,rfl,rfl,rfl,hy0,hz0⟩:=open_agg2 Tryz.underlying23 (by kernel_rfl) cellsR (hval 0 23 v0 rfl rfl) h0
 obtain ⟨a0,ea0,rfl,wa0⟩:=DataW.trod_string Tryz.underlying9 hy0
 obtain ⟨b0,eb0,rfl,wb0⟩:=DataW.trod_string Tryz.underlying9 hz0
 simp at ea0 eb0
 subst ea0 eb0
 have sh0:∀ (W':World) (sp:Nat→Bool),DataW.Trod enc Tryz.prog W' 0 sp true 23 (.agg #[.string a0,.string b0]) (.agg [.lit (.string a0.data.toList),.lit (.string b0.data.toList)]) []:=fun W' sp =>
  shut_agg2 (y0:=(.lit (.string a0.data.toList),[])) (y1:=(.lit (.string b0.data.toList),[])) Tryz.underlying23 (by kernel_rfl) cellsR ⟨1,by simp [DataW.trod,Tryz.underlying9,wa0]⟩ ⟨1,by simp [DataW.trod,Tryz.underlying9,wb0]⟩
 have hT1:=h1
 have hP1:∀ pl∈p1,pl.block<W.heap.size:=fun pl hp=>hlt pl (by simp [hp])
 have hB1:Rows.uptoBulk d1≤1048576:=Nat.le_trans (bulk_part (by simp)) hbulk
 obtain ⟨A1,n1,k1,rfl⟩:=okWide_slice Tryz.underlying34 (hval 1 34 v1 rfl rfl)
 have hK1:∃ l:List ByteArray,l.length=n1∧Kd.C Kd.string W A1 l.length l∧l.length≤k1∧l.length≤1048576:=by
  obtain ⟨fuel,hf⟩:=h1
  rcases open_strs Tryz.underlying34 Tryz.underlying9 cellsS hf with ⟨hcs,hx⟩|⟨a,len',cap',m,Sx,hcs,_,hl,hm,hmm,hx,hcell⟩
  ·simp [Value.cells] at hcs
   obtain ⟨rfl,rfl,rfl⟩:=hcs
   exact ⟨[],rfl,Kd.C_nil _ _,by simp,by simp⟩
  ·simp [Value.cells] at hcs
   obtain ⟨rfl,rfl,rfl⟩:=hcs
   simp only [Prod.mk.injEq] at hx
   obtain ⟨rfl,_⟩:=hx
   have hbl:n1≤1048576:=by
    have h9:=bulk_len ((List.range n1).map fun i=>(DataW.lit (.string (Sx i).data.toList):DataW H))
    rw [List.length_map,List.length_range] at h9
    simp only [Rows.uptoBulk] at hB1
    omega
   have hle:n1≤m:=by rw [hmm]; split<;>omega
   exact ⟨(List.range n1).map Sx,by simp,texts_row hbl (fun i hi=>(hcell i (by omega)).1),by simpa using hl,by simpa using hbl⟩
 obtain ⟨l1,rfl,hC1,hcp1,hbl1⟩:=hK1
 clear hA0 hval0
 refine (ZQ.RatFractions_any a0 b0 A1 k1 l1 W hC1 hcp1 (by omega)).mono fun e W' ⟨he,bel⟩ => ?_
 subst he
 exact ⟨_,rfl,_,_,_,[],_,[],hW',trodAll_mk1 (shut_bool Tryz.underlying4 _),(trodAll_cons_mk (sh0 _ _) (trodAll_cons_mk (WideElems.Trod_stays (P:=Tryz.prog) laidB (by kernel_rfl) (of_decide_eq_true (by kernel_rfl)) hT1 (fun pl hp=>bel.same (hP1 pl hp)) (fun pl hp=>decide_eq_true (hP1 pl hp))) trodAll_mk0)),rfl,bel.frame _,fun h=>by cases h⟩
end Go.Proofs.YtglaeambknhjlaaGreatDoor.ratFractions
end
