/- Texts under the proof, joined by a program (prune.py): OverRatSimple. -/
import Derived.Test.YtglaeambknhjlaaGreatDoorRows
import Derived.Test.YtglaeambknhjlaaGreatDoorCards
import Derived.Test.YtglaeambknhjlaaGreatDoorTie
import Derived.Test.YtglaeambknhjlaaGreatDoorCRatSimple20
import Derived.WalkKit
import Derived.ProofKit
import Derived.OpenShut
import Derived.ShutString
import Derived.ChangeOld
import Derived.Below
import Derived.SizedLaws
import Derived.Lib.SmallJoins
import Derived.Lay
import Derived.LaidOnce
import Derived.SevenTiedAt
set_option linter.unusedVariables false
set_option linter.unusedSimpArgs false
set_option exponentiation.threshold 20001
set_option maxHeartbeats 8000000
set_option maxRecDepth 100000
section
namespace Go.Proofs.YtglaeambknhjlaaGreatDoor.ratSimple
open Go.ChangeShapes Go.WideShapes Go.ChangeAt Go.RowKit Go.Joins Go.Lib
open Go.ChangeMaps (open_string shut_string)
theorem own:ownKnob Tryz.prog.godebug=none:=by kernel_rfl
theorem cellsR:Tryz.prog.cellsOf 23=2:=by kernel_rfl
theorem lifted (os:Os) (started:os.Started) (H:Type) (enc:TypeId×Value→H) :
  ReturnsInHanded {} Tryz.checked os 12 .any (fun w args=>(Rows.ratSimpleSpec.pre enc Tryz.prog Tryz.f12 [] false w args∧laidMetH Tryz.prog Rows.ratSimpleRow.laid w)∧sizedMet enc Tryz.prog Tryz.f12 (OpenSpec.ofChange Rows.ratSimpleSpec) false w args)
   (Rows.ratSimpleSpec.post enc Tryz.prog Tryz.f12 false true false false):=by
 refine returnsInHanded_of_change_and (C:=Tryz.checked) (X:=fun w _=>laidMetH Tryz.prog Rows.ratSimpleRow.laid w) (fun _ _ _ hh h=>h.of_heap hh) own started (by kernel_rfl) Tryz.func12
  (ChangeSpec.witness_shaped (enc:=enc) (C:=Tryz.checked) (os:=os) (X:=fun w _=>laidMetH Tryz.prog Rows.ratSimpleRow.laid w) false (World.laidAll Tryz.prog os Rows.ratSimpleRow.laid) #[.agg #[.string ByteArray.empty,.string ByteArray.empty],.agg #[.string ByteArray.empty,.string ByteArray.empty]] 8 (World.laidAll_os _ _ _)
   (World.shaped_of_ZipB (by kernel_rfl) (by kernel_rfl)) (by kernel_rfl) (by kernel_rfl) (by kernel_rfl)
   (by rw [MakeChecks.laidMetH_plain _ _ _ (by kernel_rfl)]; exact laidMet_laidAll _ (by kernel_rfl) (by kernel_rfl))) ?_
 intro W base args ds gs before hval0 hW _ _ hL _
 have hval:∀ (j:Nat) t v,Tryz.f12.params[j]? = some t→args[j]? = some v→Value.okWide Tryz.prog W .any base t v:=hval0
 have hW':=hW
 obtain ⟨p,q,hA0,hV,rfl,_,_⟩:=hW
 have hA:DataW.TrodAll enc Tryz.prog W 0 (fun _=>true) true Tryz.f12.params.toList args.toList ds p:=hA0
 rw [Tryz.params12] at hA hval
 obtain ⟨v0,vs0,d0,ds0,p0,q0,hargs,rfl,rfl,h0,r0⟩:=trodAll_cons hA
 obtain ⟨v1,vs1,d1,ds1,p1,q1,rfl,rfl,rfl,h1,r1⟩:=trodAll_cons r0
 obtain ⟨rfl,rfl,rfl⟩:=trodAll_nil r1
 obtain rfl:args = #[v0,v1]:=by cases args; simp_all
 obtain ⟨rfl,rfl⟩:=trodVars_none hV
 obtain ⟨c0,e0,y0,z0,m0,rfl,rfl,rfl,hy0,hz0⟩:=open_agg2 Tryz.underlying23 (by kernel_rfl) cellsR (hval 0 23 v0 rfl rfl) h0
 obtain ⟨a0,ea0,rfl,wa0⟩:=DataW.trod_string Tryz.underlying9 hy0
 obtain ⟨b0,eb0,rfl,wb0⟩:=DataW.trod_string Tryz.underlying9 hz0
 simp at ea0 eb0
 subst ea0 eb0
 have sh0:∀ (W':World) (sp:Nat→Bool),DataW.Trod enc Tryz.prog W' 0 sp true 23 (.agg #[.string a0,.string b0]) (.agg [.lit (.string a0.data.toList),.lit (.string b0.data.toList)]) []:=fun W' sp =>
  shut_agg2 (y0:=(.lit (.string a0.data.toList),[])) (y1:=(.lit (.string b0.data.toList),[])) Tryz.underlying23 (by kernel_rfl) cellsR ⟨1,by simp [DataW.trod,Tryz.underlying9,wa0]⟩ ⟨1,by simp [DataW.trod,Tryz.underlying9,wb0]⟩
 obtain ⟨c1,e1,y1,z1,m1,rfl,rfl,rfl,hy1,hz1⟩:=open_agg2 Tryz.underlying23 (by kernel_rfl) cellsR (hval 1 23 v1 rfl rfl) h1
 obtain ⟨a1,ea1,rfl,wa1⟩:=DataW.trod_string Tryz.underlying9 hy1
 obtain ⟨b1,eb1,rfl,wb1⟩:=DataW.trod_string Tryz.underlying9 hz1
 simp at ea1 eb1
 subst ea1 eb1
 have sh1:∀ (W':World) (sp:Nat→Bool),DataW.Trod enc Tryz.prog W' 0 sp true 23 (.agg #[.string a1,.string b1]) (.agg [.lit (.string a1.data.toList),.lit (.string b1.data.toList)]) []:=fun W' sp =>
  shut_agg2 (y0:=(.lit (.string a1.data.toList),[])) (y1:=(.lit (.string b1.data.toList),[])) Tryz.underlying23 (by kernel_rfl) cellsR ⟨1,by simp [DataW.trod,Tryz.underlying9,wa1]⟩ ⟨1,by simp [DataW.trod,Tryz.underlying9,wb1]⟩
 clear hA0 hval0
 refine (ZQ.RatSimple_any a0 b0 a1 b1 W).mono fun e W' ⟨he,bel⟩ => ?_
 subst he
 exact ⟨_,rfl,_,_,_,[],_,[],hW',trodAll_mk1 (shut_bool Tryz.underlying4 _),(trodAll_cons_mk (sh0 _ _) (trodAll_cons_mk (sh1 _ _) trodAll_mk0)),rfl,bel.frame _,fun h=>by cases h⟩
theorem and_true' {a b:Bool} (h:a=true) (k:b=true):(a && b)=true:=by rw [h,k]; rfl
theorem facts:joinedFacts Tryz.prog 12 Tryz.f12 Rows.ratSimpleSpec Rows.ratSimpleRow=true:=by
 unfold joinedFacts
 repeat' with_reducible refine and_true' ?_ ?_
 all_goals (as_aux_lemma=>kernel_rfl)
theorem over:Rows.ratSimpleRow.holds Tryz.pinned (OpenSpec.ofChange Rows.ratSimpleSpec):=
 OpenClaim.holds_of_wide 12 Tryz.f12 rfl rfl rfl rfl rfl rfl rfl ⟨rfl,rfl,rfl,rfl,rfl⟩ rfl rfl rfl rfl rfl (by as_aux_lemma=>kernel_rfl) Tryz.func12 facts
  (of_decide_eq_true (by as_aux_lemma=>kernel_rfl)) (by unfold Func.isWrapper; first|(rw [if_pos (by decide +kernel)]; kernel_rfl)|(rw [if_neg (by decide +kernel)]; exact ⟨rfl,rfl⟩))
  (fun os started H enc _=>lifted os started H enc)
end Go.Proofs.YtglaeambknhjlaaGreatDoor.ratSimple
end
