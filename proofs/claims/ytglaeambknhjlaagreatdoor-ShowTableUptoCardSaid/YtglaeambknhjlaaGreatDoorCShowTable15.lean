/- Texts under the proof, joined by a program (prune.py): LiftShowTable. -/
import Derived.LaidSub
import Derived.Lib.LaidTab
import Derived.Lib.AppendIntMem
import Derived.Lib.ItoaLen
import Derived.Test.YtglaeambknhjlaaGreatDoorCShowTable02
import Derived.Test.YtglaeambknhjlaaGreatDoorRows
import Derived.Test.YtglaeambknhjlaaGreatDoorCards
import Derived.Test.YtglaeambknhjlaaGreatDoorTie
import Derived.Test.YtglaeambknhjlaaGreatDoorCShowTable14
import Derived.WalkKit
import Derived.ProofKit
import Derived.OpenShut
import Derived.ShutString
import Derived.ChangeOld
import Derived.Below
import Derived.SizedLaws
import Derived.Lib.SmallJoins
import Derived.Lay
import Derived.LaidOnce
import Derived.SevenTiedAt
import Derived.Deep.Strs
import Derived.Deep.DeepHandedRow
import Derived.WideKeyArgs
import Derived.Deep.SlicePairs
set_option linter.unusedVariables false
set_option linter.unusedSimpArgs false
set_option exponentiation.threshold 20001
set_option maxHeartbeats 8000000
set_option maxRecDepth 100000
section
namespace Go.Proofs.YtglaeambknhjlaaGreatDoor.showTable
open Go.ChangeShapes Go.WideShapes Go.ChangeAt Go.RowKit Go.Joins Go.Lib Go.Deep
open Go.ChangeMaps (open_string shut_string)
theorem own:ownKnob Tryz.prog.godebug=none:=by kernel_rfl
theorem laidB:laidOutB Tryz.prog=true:=by kernel_rfl
theorem bulk_part {H:Type} {d:DataW H} {l:List (DataW H)} (h:d∈l):Rows.uptoBulk d≤Rows.uptoBulkAll l:=by
 induction l with
 | nil=>cases h
 | cons x r ih =>
  simp only [Rows.uptoBulkAll]
  rcases List.mem_cons.1 h with rfl|e
  ·omega
  ·have:=ih e; omega
open Go.Proofs.YtglaeambknhjlaaGreatDoorW.PrintWords (Kd)
theorem tab_of {W:World} (h:laidMetH Tryz.prog Rows.showTableUptoRow.laid W):TabIs Tryz.prog W "internal/strconv.uint64pow10" .u64 pow10Tab:=by
 have h1:=laidMetH.filter (fun x=>x.1 == "internal/strconv.uint64pow10") h
 have e:(Rows.showTableUptoRow.laid.filter fun x=>x.1 == "internal/strconv.uint64pow10") = [("internal/strconv.uint64pow10",tabData .u64 pow10Tab)]:=by rfl
 rw [e,MakeChecks.laidMetH_plain _ _ _ (by kernel_rfl)] at h1
 exact tabIs_of_head (g:=1) (t:=230) (e:=64) (n:=20) (by kernel_rfl) (by kernel_rfl) Tryz.underlying230 Tryz.underlying64 (by kernel_rfl) (by kernel_rfl) h1
theorem itoas_of {W:World} (h:laidMetH Tryz.prog Rows.showTableUptoRow.laid W):Q.Itoas W:=fun e h0 h1 =>
 ⟨⟨(Lib.itoa e).toArray⟩,(show (Lib.itoa e).toArray.size≤1000 by
  have:=Lib.itoa_length_le e (by omega) (by omega)
  simp; omega),fun W' hb=>(Tryz.strconv_Itoa e (by omega) (by omega) W' (tabBelow_of_tabIs (tab_of h) W' hb)).mono fun r w' ⟨hr,k,os,hw⟩=>⟨hr,by rw [hw]; exact below_grow _ _ (Nat.le_refl _) k os⟩⟩
theorem lifted (os:Os) (started:os.Started) (H:Type) (enc:TypeId×Value→H) (F:Stop.Interp) :
  ReturnsInHanded {} Tryz.checked os 4 .any ((Rows.OpenSpec.upto Rows.showTableSpec).preRow enc Tryz.prog Tryz.f4 Rows.showTableUptoRow.domain false Rows.showTableUptoRow.laid) (((Rows.OpenSpec.upto Rows.showTableSpec).at F).post enc Tryz.prog Tryz.f4 false true false false):=by
 refine returnsInHanded_of_row (C:=Tryz.checked) (s:=(Rows.OpenSpec.upto Rows.showTableSpec)) own started (by kernel_rfl) Tryz.func4
  ⟨World.laidAll Tryz.prog os Rows.showTableUptoRow.laid,fun _ _=>0,⟨#[],#[.slice none 0 0],[]⟩,World.laidAll_os _ _ _,World.shaped_of_ZipB (by kernel_rfl) (by kernel_rfl),rfl,
   (Input.okWide_of_okWideB (by kernel_rfl)).2,OpenSpec.preRow_of_cond 8 (x:=([.nil],[],[])) (by kernel_rfl) (by kernel_rfl) (fun k hk=>by cases hk; kernel_rfl) (by kernel_rfl)
    (by rw [MakeChecks.laidMetH_plain _ _ _ (by kernel_rfl)]; exact laidMet_laidAll _ (by kernel_rfl) (by kernel_rfl)),by
   simp only [Assume.holds]
   exact ⟨by simp,by simp,fun _=>Modest.zero,by simp,by simp⟩⟩ ?_
 intro W base args ds gs before hval0 hW _ hcond _ hL _ _
 have hval:∀ (j:Nat) t v,Tryz.f4.params[j]? = some t→args[j]? = some v→Value.okWide Tryz.prog W .any base t v:=hval0
 have hbulk:Rows.uptoBulkAll (ds++gs)≤1048576:=of_decide_eq_true (hcond _ rfl)
 have hlt:=DataW.Whole.lt hW
 have hW':=hW
 obtain ⟨p,q,hA0,hV,rfl,_,_⟩:=hW
 have hA:DataW.TrodAll enc Tryz.prog W 0 (fun _=>true) true Tryz.f4.params.toList args.toList ds p:=hA0
 rw [Tryz.params4] at hA hval
 obtain ⟨v0,vs0,d0,ds0,p0,q0,hargs,rfl,rfl,h0,r0⟩:=trodAll_cons hA
 obtain ⟨rfl,rfl,rfl⟩:=trodAll_nil r0
 obtain rfl:args = #[v0]:=by cases args; simp_all
 obtain ⟨rfl,rfl⟩:=trodVars_none hV
 have hT0:=h0
 have hP0:∀ pl∈p0,pl.block<W.heap.size:=fun pl hp=>hlt pl (by simp [hp])
 have hB0:Rows.uptoBulk d0≤1048576:=Nat.le_trans (bulk_part (by simp)) hbulk
 obtain ⟨A0,n0,k0,rfl⟩:=okWide_slice Tryz.underlying33 (hval 0 33 v0 rfl rfl)
 obtain ⟨l0,rfl,hC0,hcp0,hbl0,hrw0,hsz0⟩:=Q.grid_of h0 hB0
 clear hA0 hval0
 refine (Q.ShowTable_any l0 A0 k0 W hC0 hcp0 hbl0 hrw0 hsz0 (itoas_of hL)).mono fun e W' ⟨he,bel⟩ => ?_
 subst he
 exact ⟨_,rfl,_,_,_,[],_,[],hW',trodAll_mk1 (shut_bool Tryz.underlying4 _),(trodAll_cons_mk (WideElems.Trod_stays (P:=Tryz.prog) laidB (by kernel_rfl) (of_decide_eq_true (by kernel_rfl)) hT0 (fun pl hp=>bel.same (hP0 pl hp)) (fun pl hp=>decide_eq_true (hP0 pl hp))) trodAll_mk0),rfl,bel.frame _,fun h=>by cases h⟩
end Go.Proofs.YtglaeambknhjlaaGreatDoor.showTable
end
