/- Texts under the proof, joined by a program (prune.py): OverRatSimplest. -/
import Derived.Test.YtglaeambknhjlaaGreatDoorRows
import Derived.Test.YtglaeambknhjlaaGreatDoorCards
import Derived.Test.YtglaeambknhjlaaGreatDoorTie
import Derived.Test.YtglaeambknhjlaaGreatDoorCRatSimplest21
import Derived.WalkKit
import Derived.ProofKit
import Derived.OpenShut
import Derived.ShutString
import Derived.ChangeOld
import Derived.Below
import Derived.SizedLaws
import Derived.Lib.SmallJoins
import Derived.Lay
import Derived.LaidOnce
import Derived.SevenTiedAt
set_option linter.unusedVariables false
set_option linter.unusedSimpArgs false
set_option exponentiation.threshold 20001
set_option maxHeartbeats 8000000
set_option maxRecDepth 100000
section
namespace Go.Proofs.YtglaeambknhjlaaGreatDoor.ratSimplest
open Go.ChangeShapes Go.WideShapes Go.ChangeAt Go.RowKit Go.Joins Go.Lib
open Go.ChangeMaps (open_string shut_string)
theorem own:ownKnob Tryz.prog.godebug=none:=by kernel_rfl
theorem cellsR:Tryz.prog.cellsOf 23=2:=by kernel_rfl
theorem lifted (os:Os) (started:os.Started) (H:Type) (enc:TypeId×Value→H) :
  ReturnsInHanded {} Tryz.checked os 14 .any (fun w args=>(Rows.ratSimplestSpec.pre enc Tryz.prog Tryz.f14 [] false w args∧laidMetH Tryz.prog Rows.ratSimplestRow.laid w)∧sizedMet enc Tryz.prog Tryz.f14 (OpenSpec.ofChange Rows.ratSimplestSpec) false w args)
   (Rows.ratSimplestSpec.post enc Tryz.prog Tryz.f14 false true false false):=by
 refine returnsInHanded_of_change_and (C:=Tryz.checked) (X:=fun w _=>laidMetH Tryz.prog Rows.ratSimplestRow.laid w) (fun _ _ _ hh h=>h.of_heap hh) own started (by kernel_rfl) Tryz.func14
  (ChangeSpec.witness_shaped (enc:=enc) (C:=Tryz.checked) (os:=os) (X:=fun w _=>laidMetH Tryz.prog Rows.ratSimplestRow.laid w) false (World.laidAll Tryz.prog os Rows.ratSimplestRow.laid) #[.agg #[.string ByteArray.empty,.string ByteArray.empty],.agg #[.string ByteArray.empty,.string ByteArray.empty],.agg #[.string ByteArray.empty,.string ByteArray.empty]] 8 (World.laidAll_os _ _ _)
   (World.shaped_of_ZipB (by kernel_rfl) (by kernel_rfl)) (by kernel_rfl) (by kernel_rfl) (by kernel_rfl)
   (by rw [MakeChecks.laidMetH_plain _ _ _ (by kernel_rfl)]; exact laidMet_laidAll _ (by kernel_rfl) (by kernel_rfl))) ?_
 intro W base args ds gs before hval0 hW _ _ hL _
 have hval:∀ (j:Nat) t v,Tryz.f14.params[j]? = some t→args[j]? = some v→Value.okWide Tryz.prog W .any base t v:=hval0
 have hW':=hW
 obtain ⟨p,q,hA0,hV,rfl,_,_⟩:=hW
 have hA:DataW.TrodAll enc Tryz.prog W 0 (fun _=>true) true Tryz.f14.params.toList args.toList ds p:=hA0
 rw [Tryz.params14] at hA hval
 obtain ⟨v0,vs0,d0,ds0,p0,q0,hargs,rfl,rfl,h0,r0⟩:=trodAll_cons hA
 obtain ⟨v1,vs1,d1,ds1,p1,q1,rfl,rfl,rfl,h1,r1⟩:=trodAll_cons r0
 obtain ⟨v2,vs2,d2,ds2,p2,q2,rfl,rfl,rfl,h2,r2⟩:=trodAll_cons r1
 obtain ⟨rfl,rfl,rfl⟩:=trodAll_nil r2
 obtain rfl:args = #[v0,v1,v2]:=by cases args; simp_all
 obtain ⟨rfl,rfl⟩:=trodVars_none hV
 obtain ⟨c0,e0,y0,z0,m0,rfl,rfl,rfl,hy0,hz0⟩:=open_agg2 Tryz.underlying23 (by kernel_rfl) cellsR (hval 0 23 v0 rfl rfl) h0
 obtain ⟨a0,ea0,rfl,wa0⟩:=DataW.trod_string Tryz.underlying9 hy0
 obtain ⟨b0,eb0,rfl,wb0⟩:=DataW.trod_string Tryz.underlying9 hz0
 simp at ea0 eb0
 subst ea0 eb0
 have sh0:∀ (W':World) (sp:Nat→Bool),DataW.Trod enc Tryz.prog W' 0 sp true 23 (.agg #[.string a0,.string b0]) (.agg [.lit (.string a0.data.toList),.lit (.string b0.data.toList)]) []:=fun W' sp =>
  shut_agg2 (y0:=(.lit (.string a0.data.toList),[])) (y1:=(.lit (.string b0.data.toList),[])) Tryz.underlying23 (by kernel_rfl) cellsR ⟨1,by simp [DataW.trod,Tryz.underlying9,wa0]⟩ ⟨1,by simp [DataW.trod,Tryz.underlying9,wb0]⟩
 obtain ⟨c1,e1,y1,z1,m1,rfl,rfl,rfl,hy1,hz1⟩:=open_agg2 Tryz.underlying23 (by kernel_rfl) cellsR (hval 1 23 v1 rfl rfl) h1
 obtain ⟨a1,ea1,rfl,wa1⟩:=DataW.trod_string Tryz.underlying9 hy1
 obtain ⟨b1,eb1,rfl,wb1⟩:=DataW.trod_string Tryz.underlying9 hz1
 simp at ea1 eb1
 subst ea1 eb1
 have sh1:∀ (W':World) (sp:Nat→Bool),DataW.Trod enc Tryz.prog W' 0 sp true 23 (.agg #[.string a1,.string b1]) (.agg [.lit (.string a1.data.toList),.lit (.string b1.data.toList)]) []:=fun W' sp =>
  shut_agg2 (y0:=(.lit (.string a1.data.toList),[])) (y1:=(.lit (.string b1.data.toList),[])) Tryz.underlying23 (by kernel_rfl) cellsR ⟨1,by simp [DataW.trod,Tryz.underlying9,wa1]⟩ ⟨1,by simp [DataW.trod,Tryz.underlying9,wb1]⟩
 obtain ⟨c2,e2,y2,z2,m2,rfl,rfl,rfl,hy2,hz2⟩:=open_agg2 Tryz.underlying23 (by kernel_rfl) cellsR (hval 2 23 v2 rfl rfl) h2
 obtain ⟨a2,ea2,rfl,wa2⟩:=DataW.trod_string Tryz.underlying9 hy2
 obtain ⟨b2,eb2,rfl,wb2⟩:=DataW.trod_string Tryz.underlying9 hz2
 simp at ea2 eb2
 subst ea2 eb2
 have sh2:∀ (W':World) (sp:Nat→Bool),DataW.Trod enc Tryz.prog W' 0 sp true 23 (.agg #[.string a2,.string b2]) (.agg [.lit (.string a2.data.toList),.lit (.string b2.data.toList)]) []:=fun W' sp =>
  shut_agg2 (y0:=(.lit (.string a2.data.toList),[])) (y1:=(.lit (.string b2.data.toList),[])) Tryz.underlying23 (by kernel_rfl) cellsR ⟨1,by simp [DataW.trod,Tryz.underlying9,wa2]⟩ ⟨1,by simp [DataW.trod,Tryz.underlying9,wb2]⟩
 clear hA0 hval0
 refine (ZQ.RatSimplest_any a0 b0 a1 b1 a2 b2 W).mono fun e W' ⟨he,bel⟩ => ?_
 subst he
 exact ⟨_,rfl,_,_,_,[],_,[],hW',trodAll_mk1 (shut_bool Tryz.underlying4 _),(trodAll_cons_mk (sh0 _ _) (trodAll_cons_mk (sh1 _ _) (trodAll_cons_mk (sh2 _ _) trodAll_mk0))),rfl,bel.frame _,fun h=>by cases h⟩
theorem and_true' {a b:Bool} (h:a=true) (k:b=true):(a && b)=true:=by rw [h,k]; rfl
theorem facts:joinedFacts Tryz.prog 14 Tryz.f14 Rows.ratSimplestSpec Rows.ratSimplestRow=true:=by
 unfold joinedFacts
 repeat' with_reducible refine and_true' ?_ ?_
 all_goals (as_aux_lemma=>kernel_rfl)
theorem over:Rows.ratSimplestRow.holds Tryz.pinned (OpenSpec.ofChange Rows.ratSimplestSpec):=
 OpenClaim.holds_of_wide 14 Tryz.f14 rfl rfl rfl rfl rfl rfl rfl ⟨rfl,rfl,rfl,rfl,rfl⟩ rfl rfl rfl rfl rfl (by as_aux_lemma=>kernel_rfl) Tryz.func14 facts
  (of_decide_eq_true (by as_aux_lemma=>kernel_rfl)) (by unfold Func.isWrapper; first|(rw [if_pos (by decide +kernel)]; kernel_rfl)|(rw [if_neg (by decide +kernel)]; exact ⟨rfl,rfl⟩))
  (fun os started H enc _=>lifted os started H enc)
end Go.Proofs.YtglaeambknhjlaaGreatDoor.ratSimplest
end
