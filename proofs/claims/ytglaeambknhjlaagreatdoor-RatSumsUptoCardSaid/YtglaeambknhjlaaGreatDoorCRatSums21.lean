/- Texts under the proof, joined by a program (prune.py): LiftRatSums. -/
import Derived.Test.YtglaeambknhjlaaGreatDoorRows
import Derived.Test.YtglaeambknhjlaaGreatDoorCards
import Derived.Test.YtglaeambknhjlaaGreatDoorTie
import Derived.Test.YtglaeambknhjlaaGreatDoorCRatSums20
import Derived.WalkKit
import Derived.ProofKit
import Derived.OpenShut
import Derived.ShutString
import Derived.ChangeOld
import Derived.Below
import Derived.SizedLaws
import Derived.Lib.SmallJoins
import Derived.Lay
import Derived.LaidOnce
import Derived.SevenTiedAt
import Derived.Deep.Strs
import Derived.Deep.DeepHandedRow
import Derived.WideKeyArgs
import Derived.Deep.SlicePairs
set_option linter.unusedVariables false
set_option linter.unusedSimpArgs false
set_option exponentiation.threshold 20001
set_option maxHeartbeats 8000000
set_option maxRecDepth 100000
section
namespace Go.Proofs.YtglaeambknhjlaaGreatDoor.ratSums
open Go.ChangeShapes Go.WideShapes Go.ChangeAt Go.RowKit Go.Joins Go.Lib Go.Deep
open Go.ChangeMaps (open_string shut_string)
theorem own:ownKnob Tryz.prog.godebug=none:=by kernel_rfl
theorem cellsR:Tryz.prog.cellsOf 23=2:=by kernel_rfl
theorem cellsS:Tryz.prog.cellsOf 9=1:=by kernel_rfl
theorem laidB:laidOutB Tryz.prog=true:=by kernel_rfl
theorem bulk_one {H:Type} (d:DataW H):1≤Rows.uptoBulk d:=by
 cases d with
 | lit l=>cases l<;>simp [Rows.uptoBulk]
 | _=>simp [Rows.uptoBulk]
theorem bulk_len {H:Type} (l:List (DataW H)):l.length≤Rows.uptoBulkAll l:=by
 induction l with
 | nil=>simp [Rows.uptoBulkAll]
 | cons x r ih=>have:=bulk_one x; simp only [Rows.uptoBulkAll,List.length_cons]; omega
theorem bulk_part {H:Type} {d:DataW H} {l:List (DataW H)} (h:d∈l):Rows.uptoBulk d≤Rows.uptoBulkAll l:=by
 induction l with
 | nil=>cases h
 | cons x r ih =>
  simp only [Rows.uptoBulkAll]
  rcases List.mem_cons.1 h with rfl|e
  ·omega
  ·have:=ih e; omega
open Go.Proofs.ZW.Wa (Kd)
theorem rats_row {W:World} {A:Addr} {n:Nat} {S0 S1:Nat→ByteArray} (h:∀ i,i<n→W.cell? (A.add (i*2))=some (.string (S0 i))∧W.cell? (A.add (i*2+1))=some (.string (S1 i))):ZP.RowR W (some A) ((List.range n).map fun i=>(S0 i,S1 i)):=by
 intro j hj
 have hj':j<n:=by simpa using hj
 obtain ⟨b,off,spot⟩:=A
 obtain ⟨h0,h1⟩:=h j hj'
 have hspot:spot=none:=by simpa [Addr.add] using World.cell?_spot (h 0 (by omega)).1
 subst hspot
 rw [Lib.add_plain] at h0 h1
 have hlt:b<W.heap.size:=World.block_lt_of_cell? _ _ h0
 refine ⟨b,off,rfl,hlt,?_,?_⟩
 ·rw [h0]; simp
 ·rw [show off+j*2+1=off+(j*2+1) by omega,h1]; simp
theorem lifted (os:Os) (started:os.Started) (H:Type) (enc:TypeId×Value→H) (F:Stop.Interp) :
  ReturnsInHanded {} Tryz.checked os 7 .any ((Rows.OpenSpec.upto Rows.ratSumsSpec).preRow enc Tryz.prog Tryz.f7 Rows.ratSumsUptoRow.domain false Rows.ratSumsUptoRow.laid) (((Rows.OpenSpec.upto Rows.ratSumsSpec).at F).post enc Tryz.prog Tryz.f7 false true false false):=by
 refine returnsInHanded_of_row (C:=Tryz.checked) (s:=(Rows.OpenSpec.upto Rows.ratSumsSpec)) own started (by kernel_rfl) Tryz.func7
  ⟨World.laidAll Tryz.prog os Rows.ratSumsUptoRow.laid,fun _ _=>0,⟨#[],#[.slice none 0 0],[]⟩,World.laidAll_os _ _ _,World.shaped_of_ZipB (by kernel_rfl) (by kernel_rfl),rfl,
   (Input.okWide_of_okWideB (by kernel_rfl)).2,OpenSpec.preRow_of_cond 8 (x:=([.nil],[],[])) (by kernel_rfl) (by kernel_rfl) (fun k hk=>by cases hk; kernel_rfl) (by kernel_rfl)
    (by rw [MakeChecks.laidMetH_plain _ _ _ (by kernel_rfl)]; exact laidMet_laidAll _ (by kernel_rfl) (by kernel_rfl)),by
   simp only [Assume.holds]
   exact ⟨by simp,by simp,fun _=>Modest.zero,by simp,by simp⟩⟩ ?_
 intro W base args ds gs before hval0 hW _ hcond _ hL _ _
 have hval:∀ (j:Nat) t v,Tryz.f7.params[j]? = some t→args[j]? = some v→Value.okWide Tryz.prog W .any base t v:=hval0
 have hbulk:Rows.uptoBulkAll (ds++gs)≤1048576:=of_decide_eq_true (hcond _ rfl)
 have hlt:=DataW.Whole.lt hW
 have hW':=hW
 obtain ⟨p,q,hA0,hV,rfl,_,_⟩:=hW
 have hA:DataW.TrodAll enc Tryz.prog W 0 (fun _=>true) true Tryz.f7.params.toList args.toList ds p:=hA0
 rw [Tryz.params7] at hA hval
 obtain ⟨v0,vs0,d0,ds0,p0,q0,hargs,rfl,rfl,h0,r0⟩:=trodAll_cons hA
 obtain ⟨rfl,rfl,rfl⟩:=trodAll_nil r0
 obtain rfl:args = #[v0]:=by cases args; simp_all
 obtain ⟨rfl,rfl⟩:=trodVars_none hV
 have hT0:=h0
 have hP0:∀ pl∈p0,pl.block<W.heap.size:=fun pl hp=>hlt pl (by simp [hp])
 have hB0:Rows.uptoBulk d0≤1048576:=Nat.le_trans (bulk_part (by simp)) hbulk
 obtain ⟨A0,n0,k0,rfl⟩:=okWide_slice Tryz.underlying45 (hval 0 45 v0 rfl rfl)
 have hK0:∃ l:List (ByteArray×ByteArray),l.length=n0∧ZP.RowR W A0 l∧l.length≤1048576:=by
  obtain ⟨fuel,hf⟩:=h0
  rcases open_slice_pairs Tryz.underlying45 Tryz.underlying23 cellsR rfl rfl cellsS cellsS hf with ⟨hcs,hx⟩|⟨a,len',cap',m,nn,V0,V1,D0,D1,P0,P1,hcs,_,hl,hm,hmm,hx,hcell⟩
  ·simp [Value.cells] at hcs
   obtain ⟨rfl,rfl,rfl⟩:=hcs
   exact ⟨[],rfl,fun j hj=>by simp at hj,by simp⟩
  ·simp [Value.cells] at hcs
   obtain ⟨rfl,rfl,rfl⟩:=hcs
   simp only [Prod.mk.injEq] at hx
   obtain ⟨rfl,_⟩:=hx
   have hbl:n0≤1048576:=by
    have h9:=bulk_len ((List.range n0).map fun i=>(DataW.agg [D0 i,D1 i]:DataW H))
    rw [List.length_map,List.length_range] at h9
    simp only [Rows.uptoBulk] at hB0
    omega
   have hle:n0≤m:=by rw [hmm]; split<;>omega
   have hstr:∀ i,∃ s0 s1:ByteArray,i<n0→V0 i = .string s0∧V1 i = .string s1:=fun i=>by
    by_cases hi:i<n0
    ·obtain ⟨g1,g2,g3,g4⟩:=hcell i (by omega)
     obtain ⟨s0,e0,_,_⟩:=DataW.trod_string Tryz.underlying9 g3
     obtain ⟨s1,e1,_,_⟩:=DataW.trod_string Tryz.underlying9 g4
     exact ⟨s0,s1,fun _=>⟨by simpa using e0,by simpa using e1⟩⟩
    ·exact ⟨ByteArray.empty,ByteArray.empty,fun h=>absurd h hi⟩
   exact ⟨(List.range n0).map fun i=>((hstr i).choose,(hstr i).choose_spec.choose),by simp,rats_row (fun i hi=>by
    obtain ⟨g1,g2,_,_⟩:=hcell i (by omega)
    obtain ⟨e0,e1⟩:=(hstr i).choose_spec.choose_spec hi
    exact ⟨g1.trans (congrArg some e0),g2.trans (congrArg some e1)⟩),by simpa using hbl⟩
 obtain ⟨l0,rfl,hC0,hbl0⟩:=hK0
 clear hA0 hval0
 refine (ZQ.RatSums_any A0 k0 l0 W hC0 (by omega)).mono fun e W' ⟨he,bel⟩ => ?_
 subst he
 exact ⟨_,rfl,_,_,_,[],_,[],hW',trodAll_mk1 (shut_bool Tryz.underlying4 _),(trodAll_cons_mk (WideElems.Trod_stays (P:=Tryz.prog) laidB (by kernel_rfl) (of_decide_eq_true (by kernel_rfl)) hT0 (fun pl hp=>bel.same (hP0 pl hp)) (fun pl hp=>decide_eq_true (hP0 pl hp))) trodAll_mk0),rfl,bel.frame _,fun h=>by cases h⟩
end Go.Proofs.YtglaeambknhjlaaGreatDoor.ratSums
end
