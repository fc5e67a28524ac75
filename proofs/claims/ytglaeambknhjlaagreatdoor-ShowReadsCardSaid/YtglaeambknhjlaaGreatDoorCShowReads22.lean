/- Texts under the proof, joined by a program (prune.py): OverShowReads. -/
import Derived.Test.YtglaeambknhjlaaGreatDoorRows
import Derived.Test.YtglaeambknhjlaaGreatDoorCards
import Derived.Test.YtglaeambknhjlaaGreatDoorTie
import Derived.Test.YtglaeambknhjlaaGreatDoorCShowReads21
import Derived.LaidSub
import Derived.Lib.LaidTab
import Derived.Lib.AppendIntMem
import Derived.Lib.ItoaLen
import Derived.WalkKit
import Derived.ProofKit
import Derived.OpenShut
import Derived.ShutString
import Derived.ChangeOld
import Derived.Below
import Derived.SizedLaws
import Derived.Lib.SmallJoins
import Derived.Lay
import Derived.LaidOnce
import Derived.SevenTiedAt
set_option linter.unusedVariables false
set_option linter.unusedSimpArgs false
set_option exponentiation.threshold 20001
set_option maxHeartbeats 8000000
set_option maxRecDepth 100000
section
namespace Go.Proofs.YtglaeambknhjlaaGreatDoor.showReads
open Go.ChangeShapes Go.WideShapes Go.ChangeAt Go.RowKit Go.Joins Go.Lib
open Go.ChangeMaps (open_string shut_string)
theorem own:ownKnob Tryz.prog.godebug=none:=by kernel_rfl
theorem cellsR:Tryz.prog.cellsOf 23=2:=by kernel_rfl
theorem tab_of {W:World} (h:laidMetH Tryz.prog Rows.showReadsRow.laid W):TabIs Tryz.prog W "internal/strconv.uint64pow10" .u64 pow10Tab:=by
 have h1:=laidMetH.filter (fun x=>x.1 == "internal/strconv.uint64pow10") h
 have e:(Rows.showReadsRow.laid.filter fun x=>x.1 == "internal/strconv.uint64pow10") = [("internal/strconv.uint64pow10",tabData .u64 pow10Tab)]:=by rfl
 rw [e,MakeChecks.laidMetH_plain _ _ _ (by kernel_rfl)] at h1
 exact tabIs_of_head (g:=1) (t:=230) (e:=64) (n:=20) (by kernel_rfl) (by kernel_rfl) Tryz.underlying230 Tryz.underlying64 (by kernel_rfl) (by kernel_rfl) h1
theorem itoas_of {W:World} (h:laidMetH Tryz.prog Rows.showReadsRow.laid W):ZQ.Itoat W:=fun e h0 h1 W' hb =>
 (Tryz.strconv_Itoa e (by omega) (by omega) W' (tabBelow_of_tabIs (tab_of h) W' hb)).mono fun r w' ⟨hr,k,os,hw⟩=>⟨hr,by rw [hw]; exact below_grow _ _ (Nat.le_refl _) k os⟩
theorem lifted (os:Os) (started:os.Started) (H:Type) (enc:TypeId×Value→H) :
  ReturnsInHanded {} Tryz.checked os 18 .any (fun w args=>(Rows.showReadsSpec.pre enc Tryz.prog Tryz.f18 [] false w args∧laidMetH Tryz.prog Rows.showReadsRow.laid w)∧sizedMet enc Tryz.prog Tryz.f18 (OpenSpec.ofChange Rows.showReadsSpec) false w args)
   (Rows.showReadsSpec.post enc Tryz.prog Tryz.f18 false true false false):=by
 refine returnsInHanded_of_change_and (C:=Tryz.checked) (X:=fun w _=>laidMetH Tryz.prog Rows.showReadsRow.laid w) (fun _ _ _ hh h=>h.of_heap hh) own started (by kernel_rfl) Tryz.func18
  (ChangeSpec.witness_shaped (enc:=enc) (C:=Tryz.checked) (os:=os) (X:=fun w _=>laidMetH Tryz.prog Rows.showReadsRow.laid w) false (World.laidAll Tryz.prog os Rows.showReadsRow.laid) #[.agg #[.string ByteArray.empty,.string ByteArray.empty],.int .i64 0] 8 (World.laidAll_os _ _ _)
   (World.shaped_of_ZipB (by kernel_rfl) (by kernel_rfl)) (by kernel_rfl) (by kernel_rfl) (by kernel_rfl)
   (by rw [MakeChecks.laidMetH_plain _ _ _ (by kernel_rfl)]; exact laidMet_laidAll _ (by kernel_rfl) (by kernel_rfl))) ?_
 intro W base args ds gs before hval0 hW _ _ hL _
 have hval:∀ (j:Nat) t v,Tryz.f18.params[j]? = some t→args[j]? = some v→Value.okWide Tryz.prog W .any base t v:=hval0
 have hW':=hW
 obtain ⟨p,q,hA0,hV,rfl,_,_⟩:=hW
 have hA:DataW.TrodAll enc Tryz.prog W 0 (fun _=>true) true Tryz.f18.params.toList args.toList ds p:=hA0
 rw [Tryz.params18] at hA hval
 obtain ⟨v0,vs0,d0,ds0,p0,q0,hargs,rfl,rfl,h0,r0⟩:=trodAll_cons hA
 obtain ⟨v1,vs1,d1,ds1,p1,q1,rfl,rfl,rfl,h1,r1⟩:=trodAll_cons r0
 obtain ⟨rfl,rfl,rfl⟩:=trodAll_nil r1
 obtain rfl:args = #[v0,v1]:=by cases args; simp_all
 obtain ⟨rfl,rfl⟩:=trodVars_none hV
 obtain ⟨c0,e0,y0,z0,m0,rfl,rfl,rfl,hy0,hz0⟩:=open_agg2 Tryz.underlying23 (by kernel_rfl) cellsR (hval 0 23 v0 rfl rfl) h0
 obtain ⟨a0,ea0,rfl,wa0⟩:=DataW.trod_string Tryz.underlying9 hy0
 obtain ⟨b0,eb0,rfl,wb0⟩:=DataW.trod_string Tryz.underlying9 hz0
 simp at ea0 eb0
 subst ea0 eb0
 have sh0:∀ (W':World) (sp:Nat→Bool),DataW.Trod enc Tryz.prog W' 0 sp true 23 (.agg #[.string a0,.string b0]) (.agg [.lit (.string a0.data.toList),.lit (.string b0.data.toList)]) []:=fun W' sp =>
  shut_agg2 (y0:=(.lit (.string a0.data.toList),[])) (y1:=(.lit (.string b0.data.toList),[])) Tryz.underlying23 (by kernel_rfl) cellsR ⟨1,by simp [DataW.trod,Tryz.underlying9,wa0]⟩ ⟨1,by simp [DataW.trod,Tryz.underlying9,wb0]⟩
 obtain ⟨a1,rfl,rfl,rfl,w1⟩:=open_int Tryz.underlying3 (hval 1 3 v1 rfl rfl) h1
 have x1 : -9223372036854775808≤a1∧a1≤9223372036854775807:=by simpa [Lit.wf,IntKind.min,IntKind.max,IntKind.signed,IntKind.bits] using w1
 clear hA0 hval0
 refine (ZQ.ShowReads_any a0 b0 a1 W x1.1 x1.2 (itoas_of hL)).mono fun e W' ⟨he,bel⟩ => ?_
 subst he
 exact ⟨_,rfl,_,_,_,[],_,[],hW',trodAll_mk1 (shut_bool Tryz.underlying4 _),(trodAll_cons_mk (sh0 _ _) (trodAll_cons_mk (shut_int Tryz.underlying3 w1) trodAll_mk0)),rfl,bel.frame _,fun h=>by cases h⟩
theorem and_true' {a b:Bool} (h:a=true) (k:b=true):(a && b)=true:=by rw [h,k]; rfl
theorem facts:joinedFacts Tryz.prog 18 Tryz.f18 Rows.showReadsSpec Rows.showReadsRow=true:=by
 unfold joinedFacts
 repeat' with_reducible refine and_true' ?_ ?_
 all_goals (as_aux_lemma=>kernel_rfl)
theorem over:Rows.showReadsRow.holds Tryz.pinned (OpenSpec.ofChange Rows.showReadsSpec):=
 OpenClaim.holds_of_wide 18 Tryz.f18 rfl rfl rfl rfl rfl rfl rfl ⟨rfl,rfl,rfl,rfl,rfl⟩ rfl rfl rfl rfl rfl (by as_aux_lemma=>kernel_rfl) Tryz.func18 facts
  (of_decide_eq_true (by as_aux_lemma=>kernel_rfl)) (by unfold Func.isWrapper; first|(rw [if_pos (by decide +kernel)]; kernel_rfl)|(rw [if_neg (by decide +kernel)]; exact ⟨rfl,rfl⟩))
  (fun os started H enc _=>lifted os started H enc)
end Go.Proofs.YtglaeambknhjlaaGreatDoor.showReads
end
