/- Texts under the proof, joined by a program (prune.py): HInt2, WLast, WTab, WApart, WArr, WFoot, WKept, WShare, WN, WAt, WEqStruct, WRepsOne, WInv, WGuard, WMore, P0, P19, HCompare, HSum, HLess. -/
import Derived.Test.YtglaeambknhjlaaGreatDoorCRatReckons00
import Derived.RegionCalls
import Derived.Deep.RegionWith
import Derived.OrdersHeld
import Derived.Deep.RegionHeld3
import Derived.Laws.BitsLemmas
import Derived.RowKit
import Derived.Laws.StructEq
import Derived.Test.YtglaeambknhjlaaGreatDoorProg
import Derived.Below
import Derived.Deep.Draws
import Derived.Deep.AppendLies
import Derived.Maps.AppendAt
import Derived.OwnWalk
import Derived.Laws.BytesArg
import Derived.Laws.MakeOwn
import Derived.Laws.OwnMore
import Derived.Deep.OwnRows
import Derived.Tactics
import Derived.Lib.ConvBytes
import Derived.Laws.Slices
import Derived.WalkKit
import Derived.KernelRfl
import Derived.RowKit3
import Derived.Deep.LoopGhost
import Derived.Deep.QuietTactic
import Derived.BigQuiet
import Derived.WideLaws
import Derived.Deep.DeepCutAuto
import Derived.Deep.CutBlock
import Derived.Laws.Rows
import Derived.Lib.AppendStr
import Derived.ArgAppend
import Derived.Laws.IdiomCopy
set_option linter.unusedVariables false
set_option linter.unusedSimpArgs false
set_option exponentiation.threshold 20001
set_option maxHeartbeats 8000000
set_option maxRecDepth 100000
section
set_option linter.unusedVariables false
namespace Go.Proofs.P9
open Go.RowKit Go.Proofs.W9.Wa
theorem Norm.sg {neg:Bool} {ws:List Int} {x:Int} (h:Norm neg ws x):sg neg (val ws)=x:=h.eq.symm
theorem Norm.sgAbs {neg:Bool} {ws:List Int} {x:Int} (h:Norm neg ws x):P9.sg false (val ws)=x.natAbs:=by rw [h.val_eq]; rfl
theorem Norm.sgNeg {neg:Bool} {ws:List Int} {x:Int} (h:Norm neg ws x):P9.sg (!neg) (val ws) = -x:=by
  have:=h.eq
  unfold P9.sg
  cases neg<;>simp at this ⊢<;>omega
def big:Nat:=1099511627776
def Bd (n:Nat) (x:Int):Prop:=x.natAbs<2^n
theorem Norm.small {neg:Bool} {ws:List Int} {x:Int} (h:Norm neg ws x) {n:Nat} (hx:Bd n x) (hn:n≤big):ws.length≤34359738368:=by
  refine h.len hx ?_
  unfold big at hn; omega
theorem zae (w:World):Below w.heap.size w w.drew:=zan (Below.refl _ _)
theorem zaN {w w1 w2:World} {b o b' o':Nat} {u:Value} (h1:w.cell? ⟨b',o',none⟩=some u) (hb1:Below w.heap.size w w1) (hu:Upd w1 w2 b o (o+2)) (hz:Slot w1 b o) (hd:b'≠b∨o'<o∨o+2≤o'):w2.cell? ⟨b',o',none⟩=some u:=by
  have hlt:=World.block_lt_of_cell? w _ h1
  have h2:=(hb1.cell (p:=⟨b',o',none⟩) hlt).trans h1
  by_cases e:b'=b
  · subst e
    obtain ⟨cs,t,hb,_⟩:=hz
    obtain ⟨c1,hb2,s1,e1⟩:=hu.same cs t hb
    rw [←h2,zaf hb,zaf hb2]
    exact e1 _ (by omega)
  · rw [←h2]
    exact World.cell?_of_block (w:=w1) (hu.other b' (by have:=hb1.size; have:b'<w.heap.size:=hlt; omega) e)
theorem zcK (b o b' o':Nat) (x:Int) (w:World) (hz:Slot w b o) (hx:IntAt w b' o' x) (hd:b'≠b∨o'+2≤o∨o+2≤o') {n:Nat} (hs:Bd n x) (hn:n≤big) :
    Calls Tryz.prog 202 #[.pointer (some ⟨b,o,none⟩),.pointer (some ⟨b',o',none⟩)] w fun e w'=>e = .returned (.pointer (some ⟨b,o,none⟩))∧IntAt w' b o x∧Upd w w' b o (o+2):=by
  obtain ⟨neg,A,c,ws,h1,h2,h3,h4⟩:=hx.out
  have hl:ws.length≤34359738368:=h4.small hs hn
  have hlt:=hx.lt
  clear hs
  go_enter Tryz.func202,Tryz.ntmps202
  go_wp2_with fail
  go_region_held3 (fun w'=>w'.cell? ⟨b',o',none⟩=some (.bool neg)∧w'.cell? ⟨b',o'+1,none⟩=some (.slice A ws.length c))
    (first
      | go_keep
      | exact ⟨zaN h1 ((zae w).trans hb1) (Upd.refl _ b o (o+2)) ((hz.upd (Upd.of_below ((zae w).trans hb1) 0 0 0))) (by omega),zaN h2 ((zae w).trans hb1) (Upd.refl _ b o (o+2)) ((hz.upd (Upd.of_below ((zae w).trans hb1) 0 0 0))) (by omega)⟩
      | exact ⟨zaN h1 ((zae w).trans hb1) hu2 (hz.upd (Upd.of_below ((zae w).trans hb1) 0 0 0)) (by omega),zaN h2 ((zae w).trans hb1) hu2 (hz.upd (Upd.of_below ((zae w).trans hb1) 0 0 0)) (by omega)⟩)
    ((first
      | (go_simp; go_at_call 188; refine (zbT A c ws _ (h3.below (zae _)) (by omega)).mono ?_; rintro e w1 ⟨A',c',rfl,hw1,hb1⟩)
      | (go_simp; go_at_call 187; refine (zaM b o neg A' c' ws _ (hz.upd (Upd.of_below ((zae w).trans hb1) 0 0 0)) hw1 h4.wd).mono ?_; rintro e w2 ⟨rfl,hx2,hu2⟩)))
  rw [h4.sg] at hx2
  go_wp2
  go_ret
  exact ⟨rfl,hx2,((Upd.of_below (zae w) _ _ _).trans (Upd.of_below hb1 _ _ _)).trans hu2⟩
theorem neg_calls (b o b' o':Nat) (x:Int) (w:World) (hz:Slot w b o) (hx:IntAt w b' o' x) {n:Nat} (hs:Bd n x) (hn:n≤big) :
    Calls Tryz.prog 193 #[.pointer (some ⟨b,o,none⟩),.pointer (some ⟨b',o',none⟩)] w fun e w'=>e = .returned (.pointer (some ⟨b,o,none⟩))∧IntAt w' b o (-x)∧Upd w w' b o (o+2):=by
  obtain ⟨neg,A,c,ws,h1,h2,h3,h4⟩:=hx.out
  have hl:ws.length≤34359738368:=h4.small hs hn
  have hlt:=hx.lt
  clear hs
  go_enter Tryz.func193,Tryz.ntmps193
  go_wp2_with fail
  go_region_with ((first
      | (go_simp; go_at_call 188; refine (zbT A c ws _ (h3.below (zae _)) (by omega)).mono ?_; rintro e w1 ⟨A',c',rfl,hw1,hb1⟩; have g1:=(((zae w).trans hb1).cell (p:=⟨b',o',none⟩) hlt).trans h1)
      | (go_simp; go_at_call 187; refine (zaM b o (!neg) A' c' ws _ (hz.upd (Upd.of_below ((zae w).trans hb1) 0 0 0)) hw1 h4.wd).mono ?_; rintro e w2 ⟨rfl,hx2,hu2⟩)))
  all_goals
    rw [h4.sgNeg] at hx2
    go_wp2
    go_ret
    exact ⟨rfl,hx2,((Upd.of_below (zae w) _ _ _).trans (Upd.of_below hb1 _ _ _)).trans hu2⟩
theorem zcQ (b o b' o':Nat) (x:Int) (w:World) (hz:Slot w b o) (hx:IntAt w b' o' x) {n:Nat} (hs:Bd n x) (hn:n≤big) :
    Calls Tryz.prog 103 #[.pointer (some ⟨b,o,none⟩),.pointer (some ⟨b',o',none⟩)] w fun e w'=>e = .returned (.pointer (some ⟨b,o,none⟩))∧IntAt w' b o x.natAbs∧Upd w w' b o (o+2):=by
  obtain ⟨neg,A,c,ws,h1,h2,h3,h4⟩:=hx.out
  have hl:ws.length≤34359738368:=h4.small hs hn
  clear hs
  go_enter Tryz.func103,Tryz.ntmps103
  go_wp2_with fail
  refine (zbT A c ws _ h3 (by omega)).mono ?_
  rintro e w1 ⟨A',c',rfl,hw1,hb1⟩
  go_wp2_with fail
  refine (zaM b o false A' c' ws _ (hz.upd (Upd.of_below hb1 0 0 0)) hw1 h4.wd).mono ?_
  rintro e w2 ⟨rfl,hx2,hu2⟩
  rw [h4.sgAbs] at hx2
  go_wp2
  go_ret
  exact ⟨rfl,hx2,(Upd.of_below hb1 _ _ _).trans hu2⟩
end Go.Proofs.P9
end
section
namespace Go.Proofs.W9.Wb
section
variable {P:Program} {ops:Array Oper} {Q:Exit→Act→World→Prop} {md:Region.Mode} {S:World→Prop} {ds:List Nat}
def Region.reachB (md : Region.Mode) (ops : Array Oper) (i : Nat) : Nat → Nat → Bool
  | 0,_=>false
  | fuel+1,d=>match ops[d]? with
    | some o=>o.after.any fun e=>Region.binds md e && (e.on == i || Region.reachB md ops i fuel e.on)
    | none=>false
def Region.closedB (md : Region.Mode) (ops : Array Oper) (listed : Array Bool) : Bool :=
  (List.range ops.size).all fun j => !listed.getD j false || match ops[j]? with
    | some o=>o.after.all fun e => !Region.binds md e || listed.getD e.on false
    | none=>true
def Region.lastB (md:Region.Mode) (ops:Array Oper) (listed:Array Bool) (ds:List Nat) (i:Nat):Bool:=
  ds.all fun d=>listed.getD d true || Region.reachB md ops i ops.size d
def ListedClosed (md:Region.Mode) (ops:Array Oper) (listed:Array Bool):Prop:=
  ∀ j oj,ops[j]? = some oj→listed.getD j false=true→∀ e∈oj.after,Region.binds md e=true→listed.getD e.on false=true
theorem Region.closedB_spec {listed:Array Bool} (h:Region.closedB md ops listed=true):ListedClosed md ops listed:=by
  intro j oj hj hl e he hb
  have hlt:j<ops.size:=(Array.getElem?_eq_some_iff.1 hj).1
  have h1:=List.all_eq_true.1 h j (List.mem_range.2 hlt)
  simp only [hl,hj,Bool.not_true,Bool.false_or] at h1
  have h2:=Array.all_eq_true_iff_forall_mem.1 h1 e he
  simpa [hb] using h2
theorem ListedClosed.set {listed:Array Bool} {i:Nat} (h:ListedClosed md ops listed) (hi:i∈Region.ready md ops listed):ListedClosed md ops (listed.setIfInBounds i true):=by
  obtain ⟨_,oi,hoi,hall⟩:=mem_ready.1 hi
  intro j oj hj hl e he hb
  by_cases hij:i=j
  · subst hij
    have:oj=oi:=Option.some.inj (hj.symm.trans hoi)
    subst this
    exact getD_set_true (hall e he hb)
  · rw [getD_set_ne false hij] at hl
    exact getD_set_true (h j oj hj hl e he hb)
theorem Region.reach_listed {listed:Array Bool} {i:Nat} (hc:ListedClosed md ops listed):∀ (fuel d:Nat),Region.reachB md ops i fuel d=true→listed.getD d false=true→listed.getD i false=true
  | 0,_,h,_=>by simp [Region.reachB] at h
  | fuel+1,d,h,hl=>by
    unfold Region.reachB at h
    cases ho:ops[d]? with
    | none=>rw [ho] at h; simp at h
    | some o =>
      rw [ho] at h
      obtain ⟨e,he,h1⟩:=Array.any_eq_true'.1 h
      simp only [Bool.and_eq_true,Bool.or_eq_true,beq_iff_eq] at h1
      have hle:=hc d o ho hl e he h1.1
      rcases h1.2 with h2|h2
      · rw [←h2]; exact hle
      · exact Region.reach_listed hc fuel e.on h2 hle
theorem Region.reach_not_ready {listed:Array Bool} {i d fuel:Nat} (hc:ListedClosed md ops listed) (hr:Region.reachB md ops i fuel d=true) (hun:listed.getD i true=false):d ∉ Region.ready md ops listed:=by
  intro hd
  obtain ⟨_,o,ho,hall⟩:=mem_ready.1 hd
  have hi:listed.getD i false=true:=by
    cases fuel with
    | zero=>simp [Region.reachB] at hr
    | succ n =>
      unfold Region.reachB at hr
      rw [ho] at hr
      obtain ⟨e,he,h1⟩:=Array.any_eq_true'.1 hr
      simp only [Bool.and_eq_true,Bool.or_eq_true,beq_iff_eq] at h1
      have hle:=hall e he h1.1
      rcases h1.2 with h2|h2
      · rw [←h2]; exact hle
      · exact Region.reach_listed hc n e.on h2 hle
  rcases Nat.lt_or_ge i listed.size with h'|h'
  · simp [h'] at hun hi
    rw [hun] at hi
    cases hi
  · simp [Array.getElem?_eq_none h'] at hun
def wpAnyLast (P : Program) (md : Region.Mode) (ops : Array Oper) (Q : Exit → Act → World → Prop) (S : World → Prop) (ds : List Nat) : Nat → Array Bool → Act → World → Prop
  | 0,listed,a,w=>Region.ready md ops listed = []∧Q .normal a w
  | fuel+1,listed,a,w =>
    (Region.ready md ops listed = []→Q .normal a w) ∧
    ∀ i∈Region.ready md ops listed,wpOp P ops Q i (fun a' w'=>(i ∉ ds→S w→S w')∧wpAnyLast P md ops Q S ds fuel (listed.setIfInBounds i true) a' w') a w
theorem zdf:∀ (fuel:Nat) (listed:Array Bool) (a:Act) (w:World),wpAnyLast P md ops Q S ds fuel listed a w→wpAny P md ops Q fuel listed a w
  | 0,_,_,_,h=>h
  | fuel+1,_,_,_,h=>⟨h.1,fun i hi=>wpOp_mono (fun a' w' h'=>zdf fuel _ a' w' h'.2) (h.2 i hi)⟩
theorem wpAnyLast_first {i : Nat} {oi : Oper} {v : Value} (hi : ops[i]? = some oi) (hsel : ∀ (j : Nat) (o : Oper) cs b, ops[j]? = some o → o.op ≠ .select cs b)
    (hQ:∀ c a w,Q (.panic c) (a.put oi.dst v) w→Q (.panic c) a w) (n:Nat) :
    ∀ (fuel:Nat) (listed:Array Bool) (a:Act) (w:World),
      (∀ j oj,ops[j]? = some oj→j≠i→listed.getD j true=false→(∀ e∈oj.after,Region.binds md e=true→e.on≠i)→oi.apart ops oj=true) →
      ListedClosed md ops listed→(∀ d∈ds,listed.getD d true=false→Region.reachB md ops i n d=true) →
      i∈Region.ready md ops listed→YieldsIf P ops S oi v a→S w →
      wpAnyLast P md ops Q S ds fuel (listed.setIfInBounds i true) (a.put oi.dst v) w→wpAnyLast P md ops Q S ds (fuel+1) listed a w:=by
  intro fuel
  induction fuel with
  | zero =>
    intro listed a w _ _ _ hr hy hS H
    refine ⟨fun h=>(by rw [h] at hr; cases hr),fun j hj => ?_⟩
    by_cases hji:j=i
    · subst hji; exact hy.wpOp hi hS ⟨fun _ h=>h,H⟩
    · have:=ready_mono hj hji
      rw [H.1] at this
      cases this
  | succ fuel ih =>
    intro listed a w hfree hc hd hr hy hS H
    refine ⟨fun h=>(by rw [h] at hr; cases hr),fun j hj => ?_⟩
    by_cases hji:j=i
    · subst hji; exact hy.wpOp hi hS ⟨fun _ h=>h,H⟩
    · have h1:=H.2 j (ready_mono hj hji)
      obtain ⟨hjun,oj,hoj,hall⟩:=mem_ready.1 hj
      have hiun:=(mem_ready.1 hr).1
      have hnot:∀ e∈oj.after,Region.binds md e=true→e.on≠i:=fun e he hb heq=>by
        have h1:=hall e he hb
        rw [heq] at h1
        rcases Nat.lt_or_ge i listed.size with h'|h'
        · simp [h'] at hiun h1; rw [hiun] at h1; cases h1
        · simp [Array.getElem?_eq_none h'] at h1
      have hjd:j ∉ ds:=fun hm=>Region.reach_not_ready hc (hd j hm hjun) hiun hj
      have h2:=wpOp_putIf hoj (hfree j oj hoj hji hjun hnot) (fun cs b=>hsel i oi cs b hi) (fun cs b=>hsel j oj cs b hoj) hQ hy h1
      have hfree':∀ k ok,ops[k]? = some ok→k≠i→(listed.setIfInBounds j true).getD k true=false →
          (∀ e∈ok.after,Region.binds md e=true→e.on≠i)→oi.apart ops ok=true:=fun k ok hk hki hun hno=>by
        refine hfree k ok hk hki ?_ hno
        by_cases hjk:j=k
        · subst hjk; exact hjun
        · rw [getD_set_ne true hjk] at hun; exact hun
      have hd':∀ d∈ds,(listed.setIfInBounds j true).getD d true=false→Region.reachB md ops i n d=true:=fun d hm hun=>by
        refine hd d hm ?_
        by_cases hjk:j=d
        · subst hjk; exact hjun
        · rw [getD_set_ne true hjk] at hun; exact hun
      refine wpOp_mono (fun a' w' h3=>⟨h3.2.1,ih (listed.setIfInBounds j true) a' w' hfree' (hc.set hj) hd' (ready_mono hr (Ne.symm hji)) h3.1 (h3.2.1 hjd hS) ?_⟩) h2
      rw [Array.setIfInBounds_comm _ _ hji]
      exact h3.2.2
theorem wpAnyLast_any {i : Nat} {oi : Oper} {v : Value} (hi : ops[i]? = some oi) (hsel : ∀ (j : Nat) (o : Oper) cs b, ops[j]? = some o → o.op ≠ .select cs b)
    (hQ:∀ c a w,Q (.panic c) (a.put oi.dst v) w→Q (.panic c) a w) :
    ∀ (fuel:Nat) (listed:Array Bool) (a:Act) (w:World),
      (∀ j oj,ops[j]? = some oj→j≠i→listed.getD j true=false→(∀ e∈oj.after,Region.binds md e=true→e.on≠i)→oi.apart ops oj=true) →
      i∈Region.ready md ops listed→Yields P ops oi v a →
      wpAnyLast P md ops Q S ds fuel (listed.setIfInBounds i true) (a.put oi.dst v) w→wpAnyLast P md ops Q S ds (fuel+1) listed a w:=by
  intro fuel
  induction fuel with
  | zero =>
    intro listed a w _ hr hy H
    refine ⟨fun h=>(by rw [h] at hr; cases hr),fun j hj => ?_⟩
    by_cases hji:j=i
    · subst hji; exact (hy.yieldsIf (S:=fun _=>True)).wpOp hi trivial ⟨fun _ h=>h,H⟩
    · have:=ready_mono hj hji
      rw [H.1] at this
      cases this
  | succ fuel ih =>
    intro listed a w hfree hr hy H
    refine ⟨fun h=>(by rw [h] at hr; cases hr),fun j hj => ?_⟩
    by_cases hji:j=i
    · subst hji; exact (hy.yieldsIf (S:=fun _=>True)).wpOp hi trivial ⟨fun _ h=>h,H⟩
    · have h1:=H.2 j (ready_mono hj hji)
      obtain ⟨hjun,oj,hoj,hall⟩:=mem_ready.1 hj
      have hiun:=(mem_ready.1 hr).1
      have hnot:∀ e∈oj.after,Region.binds md e=true→e.on≠i:=fun e he hb heq=>by
        have h1:=hall e he hb
        rw [heq] at h1
        rcases Nat.lt_or_ge i listed.size with h'|h'
        · simp [h'] at hiun h1; rw [hiun] at h1; cases h1
        · simp [Array.getElem?_eq_none h'] at h1
      have h2:=wpOp_put hoj (hfree j oj hoj hji hjun hnot) (fun cs b=>hsel i oi cs b hi) (fun cs b=>hsel j oj cs b hoj) hQ hy h1
      have hfree':∀ k ok,ops[k]? = some ok→k≠i→(listed.setIfInBounds j true).getD k true=false →
          (∀ e∈ok.after,Region.binds md e=true→e.on≠i)→oi.apart ops ok=true:=fun k ok hk hki hun hno=>by
        refine hfree k ok hk hki ?_ hno
        by_cases hjk:j=k
        · subst hjk; exact hjun
        · rw [getD_set_ne true hjk] at hun; exact hun
      refine wpOp_mono (fun a' w' h3=>⟨h3.2.1,ih (listed.setIfInBounds j true) a' w' hfree' (ready_mono hr (Ne.symm hji)) h3.1 ?_⟩) h2
      rw [Array.setIfInBounds_comm _ _ hji]
      exact h3.2.2
theorem wpAnyLast_take {i:Nat} {oi:Oper} {v:Value} {fuel:Nat} {listed:Array Bool} {a:Act} {w:World} (hi:ops[i]? = some oi)
    (hs:Region.noSelect ops=true) (hf:Region.free md ops listed i=true) (hr:(Region.ready md ops listed).contains i=true)
    (hc:Region.closedB md ops listed=true) (hl:Region.lastB md ops listed ds i=true)
    (hQ:∀ c a w,Q (.panic c) (a.put oi.dst v) w→Q (.panic c) a w) (hy:YieldsIf P ops S oi v a) (hS:S w)
    (h:wpAnyLast P md ops Q S ds fuel (listed.setIfInBounds i true) (a.put oi.dst v) w):wpAnyLast P md ops Q S ds (fuel+1) listed a w:=
  wpAnyLast_first hi (Region.noSelect_spec hs) hQ ops.size fuel listed a w (Region.free_spec hi hf) (Region.closedB_spec hc)
    (fun d hm hun=>by have:=List.all_eq_true.1 hl d hm; rw [hun] at this; simpa using this) (by simpa using hr) hy hS h
theorem wpAnyLast_all {rs:List Nat} {fuel:Nat} {listed:Array Bool} {a:Act} {w:World} (hr:Region.ready md ops listed=rs) (hne:rs ≠ [])
    (h:∀ i∈rs,wpOp P ops Q i (fun a' w'=>(i ∉ ds→S w→S w')∧wpAnyLast P md ops Q S ds fuel (listed.setIfInBounds i true) a' w') a w):wpAnyLast P md ops Q S ds (fuel+1) listed a w:=
  ⟨fun h0=>absurd (hr ▸ h0) hne,hr ▸ h⟩
theorem wpAnyLast_done {listed:Array Bool} {a:Act} {w:World} (hr:Region.ready md ops listed = []) (h:Q .normal a w) :
    ∀ fuel,wpAnyLast P md ops Q S ds fuel listed a w
  | 0=>⟨hr,h⟩
  | _+1=>⟨fun _=>h,by rw [hr]; simp⟩
theorem wp_region_last {id:Nat} {a:Act} {w:World} (hm:P.follows .mixedOrders=true)
    (h:wpAnyLast P .any ops Q S ds ops.size (Array.replicate ops.size false) a { w with drawn:=w.drawn+1 }):(Code.region id ops true).wp P Q a w:=
  wp_region_any hm (zdf _ _ _ _ h)
end
section
variable {P:Program} {ops:Array Oper} {Q:Exit→Act→World→Prop} {md:Region.Mode} {S:World→Prop} {ds:List Nat}
def AllReadyL (P:Program) (md:Region.Mode) (ops:Array Oper) (Q:Exit→Act→World→Prop) (S:World→Prop) (ds:List Nat) (fuel:Nat) (listed:Array Bool) (a:Act) (w:World) (rs:List Nat):Prop:=
  ∀ i∈rs,wpOp P ops Q i (fun a' w'=>(i ∉ ds→S w→S w')∧wpAnyLast P md ops Q S ds fuel (listed.setIfInBounds i true) a' w') a w
theorem AllReadyL.nil {fuel:Nat} {listed:Array Bool} {a:Act} {w:World}:AllReadyL P md ops Q S ds fuel listed a w []:=fun _ h=>by cases h
theorem AllReadyL.cons {fuel:Nat} {listed:Array Bool} {a:Act} {w:World} {i:Nat} {o:Oper} {rs:List Nat} (ho:ops[i]? = some o) (hd:i ∉ ds)
    (h:∀ K':Act→World→Prop,Shut (∀ a w,S w→(S w→wpAnyLast P md ops Q S ds fuel (listed.setIfInBounds i true) a w)→K' a w)→if Region.wanted o (yielded ops a.tmps)=true then Oper.wp P o a w K' Q else K' (a.put o.dst undef) w)
    (hs:AllReadyL P md ops Q S ds fuel listed a w rs):AllReadyL P md ops Q S ds fuel listed a w (i :: rs):=fun j hj=>by
  rcases List.mem_cons.1 hj with rfl|hj
  · exact wpOp_step ho (fun K' hK=>h K' (fun a w hS hW=>hK a w ⟨fun _ _=>hS,hW hS⟩))
  · exact hs j hj
theorem AllReadyL.cons_last {fuel:Nat} {listed:Array Bool} {a:Act} {w:World} {i:Nat} {o:Oper} {rs:List Nat} (ho:ops[i]? = some o) (hd:i∈ds)
    (h:∀ K':Act→World→Prop,Shut (∀ a w,wpAnyLast P md ops Q S ds fuel (listed.setIfInBounds i true) a w→K' a w)→if Region.wanted o (yielded ops a.tmps)=true then Oper.wp P o a w K' Q else K' (a.put o.dst undef) w)
    (hs:AllReadyL P md ops Q S ds fuel listed a w rs):AllReadyL P md ops Q S ds fuel listed a w (i :: rs):=fun j hj=>by
  rcases List.mem_cons.1 hj with rfl|hj
  · exact wpOp_step ho (fun K' hK=>h K' (fun a w hW=>hK a w ⟨fun hn=>absurd hd hn,hW⟩))
  · exact hs j hj
theorem zcH {rs:List Nat} {fuel:Nat} {listed:Array Bool} {a:Act} {w:World} (hr:Region.ready md ops listed=rs) (hne:rs ≠ [])
    (h:AllReadyL P md ops Q S ds fuel listed a w rs):wpAnyLast P md ops Q S ds (fuel+1) listed a w:=wpAnyLast_all hr hne h
theorem start_ {id n:Nat} {a:Act} {w:World} (l:Array Bool) (hm:P.follows .mixedOrders=true) (hn:ops.size=n) (hl:Array.replicate n false=l) (hS:S w.drew)
    (h:S w.drew→wpAnyLast P .any ops Q S ds n l a w.drew):(Code.region id ops true).wp P Q a w:=by
  subst hn
  subst hl
  exact wp_region_last hm (h hS)
def takeB (md:Region.Mode) (ops:Array Oper) (ds:List Nat) (l l':Array Bool) (i:Nat):Bool:=
  Region.noSelect ops && Region.free md ops l i && (Region.ready md ops l).contains i && Region.closedB md ops l && Region.lastB md ops l ds i && (l.setIfInBounds i true == l')
theorem take_ {i:Nat} {N:Option Tmp} {oi:Oper} {v:Value} {fuel:Nat} {l:Array Bool} {a:Act} {w:World} (l':Array Bool) (hi:ops[i]? = some oi) (hN:oi.dst=N) (hc:takeB md ops ds l l' i=true)
    (hQ:∀ c a w,Q (.panic c) (a.put oi.dst v) w→Q (.panic c) a w) (hy:YieldsIf P ops S oi v a) (hS:S w) {a':Act} (ha:a.put N v=a')
    (h:wpAnyLast P md ops Q S ds fuel l' a' w):wpAnyLast P md ops Q S ds (fuel+1) l a w:=by
  subst ha
  subst hN
  simp only [takeB,Bool.and_eq_true,beq_iff_eq] at hc
  obtain ⟨⟨⟨⟨⟨h1,h2⟩,h3⟩,h4⟩,h5⟩,h6⟩:=hc
  subst h6
  exact wpAnyLast_take hi h1 h2 h3 h4 h5 hQ hy hS h
def anyB (md:Region.Mode) (ops:Array Oper) (l l':Array Bool) (i:Nat):Bool:=
  Region.noSelect ops && Region.free md ops l i && (Region.ready md ops l).contains i && (l.setIfInBounds i true == l')
theorem pure_ {i:Nat} {N:Option Tmp} {oi:Oper} {v:Value} {fuel:Nat} {l:Array Bool} {a:Act} {w:World} (l':Array Bool) (hi:ops[i]? = some oi) (hN:oi.dst=N) (hc:anyB md ops l l' i=true)
    (hQ:∀ c a w,Q (.panic c) (a.put oi.dst v) w→Q (.panic c) a w) (hy:Yields P ops oi v a) {a':Act} (ha:a.put N v=a')
    (h:wpAnyLast P md ops Q S ds fuel l' a' w):wpAnyLast P md ops Q S ds (fuel+1) l a w:=by
  subst ha
  subst hN
  simp only [anyB,Bool.and_eq_true,beq_iff_eq] at hc
  obtain ⟨⟨⟨h1,h2⟩,h3⟩,h6⟩:=hc
  subst h6
  exact wpAnyLast_any hi (Region.noSelect_spec h1) hQ fuel l a w (Region.free_spec hi h2) (by simpa using h3) hy h
def readyB (md:Region.Mode) (ops:Array Oper) (l l':Array Bool) (i:Nat):Bool:=(Region.ready md ops l == [i]) && (l.setIfInBounds i true == l')
theorem one_ {i:Nat} {N:Option Tmp} {oi:Oper} {fuel:Nat} {l:Array Bool} {a:Act} {w:World} (l':Array Bool) (hi:ops[i]? = some oi) (hN:oi.dst=N) (hc:readyB md ops l l' i=true) (hd:i ∉ ds)
    (h:∀ K:Act→World→Prop,Shut (∀ a' w',S w'→(S w'→wpAnyLast P md ops Q S ds fuel l' a' w')→K a' w')→if Region.wanted oi (yielded ops a.tmps)=true then Oper.wp P oi a w K Q else K (a.put N undef) w) :
    wpAnyLast P md ops Q S ds (fuel+1) l a w:=by
  subst hN
  simp only [readyB,Bool.and_eq_true,beq_iff_eq] at hc
  obtain ⟨h1,h2⟩:=hc
  subst h2
  exact zcH h1 (by simp) (AllReadyL.cons hi hd (fun K hK=>h K hK) AllReadyL.nil)
theorem last_ {i:Nat} {N:Option Tmp} {oi:Oper} {fuel:Nat} {l:Array Bool} {a:Act} {w:World} (l':Array Bool) (hi:ops[i]? = some oi) (hN:oi.dst=N) (hc:readyB md ops l l' i=true) (hd:i∈ds)
    (h:∀ K:Act→World→Prop,Shut (∀ a' w',wpAnyLast P md ops Q S ds fuel l' a' w'→K a' w')→if Region.wanted oi (yielded ops a.tmps)=true then Oper.wp P oi a w K Q else K (a.put N undef) w) :
    wpAnyLast P md ops Q S ds (fuel+1) l a w:=by
  subst hN
  simp only [readyB,Bool.and_eq_true,beq_iff_eq] at hc
  obtain ⟨h1,h2⟩:=hc
  subst h2
  exact zcH h1 (by simp) (AllReadyL.cons_last hi hd (fun K hK=>h K hK) AllReadyL.nil)
theorem done_ {l:Array Bool} {a:Act} {w:World} {n:Nat} (hr:(Region.ready md ops l == [])=true) (h:Q .normal a w):wpAnyLast P md ops Q S ds n l a w:=wpAnyLast_done (by simpa using hr) h n
theorem norm_ {fuel:Nat} {l:Array Bool} {a a':Act} {w:World} (ha:a=a') (h:wpAnyLast P md ops Q S ds fuel l a' w):wpAnyLast P md ops Q S ds fuel l a w:=by
  subst ha
  exact h
theorem call_ {oi:Oper} {N:Option Tmp} {a:Act} {w:World} {K:Act→World→Prop} (f:FuncId) (args:Array Value) (hw:Region.wanted oi (yielded ops a.tmps)=true) (hN:oi.dst=N) (hrun:(execOp a.eval oi).run P w = .ok (.enter f args) w)
    (h:Calls P f args w fun e w'=>∃ v,e = .returned v∧K (a.put N v) w'):if Region.wanted oi (yielded ops a.tmps)=true then Oper.wp P oi a w K Q else K (a.put N undef) w:=by
  rw [if_pos hw]
  subst hN
  unfold Oper.wp
  rw [hrun,Oper.upon_enter]
  refine h.mono fun e w'' hh => ?_
  obtain ⟨v,rfl,hk⟩:=hh
  exact hk
theorem enters_ {f:FuncId} {fn:Func} (hf:P.funcs[f]? = some fn) (hname:(fn.name == "runtime.NumGoroutine")=false) (hb:fn.body.isSome=true) (args:Array Value) (w:World):(callFunc f args).run P w = .ok (.enter f args) w:=by
  have h1:fn.name ≠ "runtime.NumGoroutine":=by simpa using hname
  obtain ⟨c,hc⟩:=Option.isSome_iff_exists.1 hb
  simp [callFunc,hf,h1,hc]
theorem goes_ {oi:Oper} {N:Option Tmp} {a:Act} {w:World} {K:Act→World→Prop} {f:FuncId} {fn:Func} {as0:Array Operand} {ts:Array TypeId} (hf:P.funcs[f]? = some fn) (hname:(fn.name == "runtime.NumGoroutine")=false) (hb:fn.body.isSome=true) (args:Array Value)
    (hw:Region.wanted oi (yielded ops a.tmps)=true) (hN:oi.dst=N) (hop:oi.op = .call { callee:=.value (.func f),args:=as0,argTypes:=ts }) (hargs:as0.map a.eval=args)
    (h:Calls P f args w fun e w'=>∃ v,e = .returned v∧K (a.put N v) w'):if Region.wanted oi (yielded ops a.tmps)=true then Oper.wp P oi a w K Q else K (a.put N undef) w:=by
  refine call_ f args hw hN ?_ h
  have he:=enters_ hf hname hb args w
  unfold execOp
  simp [hop,resolve,Deferred.ofValue,invoke,Act.eval,hargs,he]
theorem zaT {rest:List Oper} {oi:Oper} {a:Act} {w:World} (N:Option Tmp) (hd:oi.dst=N) (hg:oi.guard=none) {f:FuncId} {fn:Func} {as0:Array Operand} {ts:Array TypeId} (hf:P.funcs[f]? = some fn) (hname:(fn.name == "runtime.NumGoroutine")=false) (hb:fn.body.isSome=true) (args:Array Value)
    (hop:oi.op = .call { callee:=.value (.func f),args:=as0,argTypes:=ts }) (hargs:as0.map a.eval=args)
    (h:Calls P f args w fun e w'=>∃ v,e = .returned v∧wpList P ops Q rest (a.put N v) w'):wpList P ops Q (oi :: rest) a w:=by
  refine wpList_plain hg fun K hK => ?_
  have he:=enters_ hf hname hb args w
  have hrun:(execOp a.eval oi).run P w = .ok (.enter f args) w:=by
    unfold execOp
    simp [hop,resolve,Deferred.ofValue,invoke,Act.eval,hargs,he]
  unfold Oper.wp
  rw [hrun,Oper.upon_enter]
  refine h.mono fun e w'' hh => ?_
  obtain ⟨v,rfl,hk⟩:=hh
  subst hd
  exact hK _ _ hk
theorem skip_ {oi:Oper} {a:Act} {w w1:World} {K:Act→World→Prop} (hw:Region.wanted oi (yielded ops a.tmps)=true) (hN:oi.dst=none) (hrun:(execOp a.eval oi).run P w = .ok .skip w1)
    (h:K a w1):if Region.wanted oi (yielded ops a.tmps)=true then Oper.wp P oi a w K Q else K (a.put none undef) w:=by
  rw [if_pos hw]
  unfold Oper.wp
  rw [hrun]
  show K (a.put oi.dst undef) w1
  rw [hN]
  exact h
theorem i64_w (n:Int):IntKind.i64.wrap n=Go.RowKit.wrap64 n:=by unfold Go.RowKit.wrap64; exact IntKind.wrap_i64 n
theorem i32_w (n:Int):IntKind.i32.wrap n=Go.RowKit.wrap32 n:=by unfold Go.RowKit.wrap32; exact IntKind.wrap_i32 n
end
end Go.Proofs.W9.Wb
end
section
namespace Go.Proofs.W9.Wb
open Go.Proofs.W9.Wa (Aside0)
def needsOf (md:Region.Mode) (o:Oper):List Nat:=(o.after.toList.filter (fun e=>Region.binds md e)).map (fun e=>e.on)
def clashOf (md:Region.Mode) (ops:Array Oper) (i:Nat) (oi:Oper):List Nat:=(List.range ops.size).filter fun j => !(j == i) && match ops[j]? with
 | some oj => !(oj.after.any (fun e=>Region.binds md e && e.on == i) || oi.apart ops oj)
 | none=>false
def rtab (md:Region.Mode) (ops:Array Oper):Bool×List (List Nat×List Nat):=(Region.noSelect ops,(List.range ops.size).map fun i=>match ops[i]? with
 | some o=>(needsOf md o,clashOf md ops i o)
 | none=>([],[]))
def readyAt (T:List (List Nat×List Nat)) (l:List Bool) (i:Nat):Bool:=!l.getD i true && match T[i]? with
 | some r=>r.1.all (fun j=>l.getD j false)
 | none=>false
def readyT (T:List (List Nat×List Nat)) (l:List Bool):List Nat:=(List.range T.length).filter (readyAt T l)
def freeT (T:List (List Nat×List Nat)) (l:List Bool) (i:Nat):Bool:=match T[i]? with
 | some r=>r.2.all (fun j=>l.getD j true)
 | none=>false
def closedT (T:List (List Nat×List Nat)) (l:List Bool):Bool:=(List.range T.length).all fun j => !l.getD j false || match T[j]? with
 | some r=>r.1.all (fun k=>l.getD k false)
 | none=>true
def reachT (T:List (List Nat×List Nat)) (i:Nat):Nat→Nat→Bool
 | 0,_=>false
 | fuel+1,d=>match T[d]? with
  | some r=>r.1.any fun j=>j == i || reachT T i fuel j
  | none=>false
def lastT (T:List (List Nat×List Nat)) (l:List Bool) (ds:List Nat) (i:Nat):Bool:=ds.all fun d=>l.getD d true || reachT T i T.length d
section
variable {md:Region.Mode} {ops:Array Oper} {T:Bool×List (List Nat×List Nat)} {l l' li lj lk:Array Bool} {ds:List Nat} {i j k:Nat}
theorem gd (l:Array Bool) (j:Nat) (b:Bool):l.getD j b=l.toList.getD j b:=by simp [Array.getD_eq_getD_getElem?,List.getD_eq_getElem?_getD]
theorem needs_all (o:Oper) (p:Nat→Bool):o.after.all (fun e => !Region.binds md e || p e.on)=(needsOf md o).all p:=by
 unfold needsOf
 rw [←Array.all_toList]
 induction o.after.toList with
 | nil=>rfl
 | cons e r ih =>
  rw [List.all_cons,ih,List.filter_cons]
  cases h:Region.binds md e<;>simp
theorem needs_any (o:Oper) (p:Nat→Bool):o.after.any (fun e=>Region.binds md e && p e.on)=(needsOf md o).any p:=by
 unfold needsOf
 rw [←Array.any_toList]
 induction o.after.toList with
 | nil=>rfl
 | cons e r ih =>
  rw [List.any_cons,ih,List.filter_cons]
  cases h:Region.binds md e<;>simp
theorem zcy:(rtab md ops).2.length=ops.size:=by simp [rtab]
theorem zdm {o:Oper} (h:ops[i]? = some o):(rtab md ops).2[i]? = some (needsOf md o,clashOf md ops i o):=by
 have hi:=(Array.getElem?_eq_some_iff.1 h).1
 unfold rtab
 rw [List.getElem?_map,List.getElem?_range hi,Option.map_some,h]
theorem zdn (h:ops[i]? = none):(rtab md ops).2[i]? = none:=by
 have hi:ops.size≤i:=Array.getElem?_eq_none_iff.1 h
 exact List.getElem?_eq_none (by rw [zcy]; exact hi)
theorem readyAt_eq:readyAt (rtab md ops).2 l.toList i=(!l.getD i true && ((ops[i]?).map (·.after.all fun e => !Region.binds md e || l.getD e.on false)).getD false):=by
 unfold readyAt
 rw [gd]
 cases h:ops[i]? with
 | none=>rw [zdn h]; rfl
 | some o =>
  rw [zdm h]
  simp only [Option.map_some,Option.getD_some]
  rw [←needs_all]
  simp only [gd]
theorem ready_eq:Region.ready md ops l=readyT (rtab md ops).2 l.toList:=by
 unfold Region.ready readyT
 rw [zcy]
 refine List.filter_congr (fun i _ => ?_)
 rw [readyAt_eq]
theorem free_eq:Region.free md ops l i=freeT (rtab md ops).2 l.toList i:=by
 unfold Region.free freeT
 cases h:ops[i]? with
 | none=>rw [zdn h]
 | some oi =>
  rw [zdm h]
  simp only [clashOf]
  rw [List.all_filter]
  congr 1
  funext j
  rw [gd]
  cases hj:ops[j]? with
  | none=>cases (j == i)<;>cases (l.toList.getD j true)<;>simp
  | some oj =>
   cases (j == i)<;>cases (l.toList.getD j true)<;>cases (oj.after.any (fun e=>Region.binds md e && e.on == i) || oi.apart ops oj)<;>simp_all
theorem closed_eq:Region.closedB md ops l=closedT (rtab md ops).2 l.toList:=by
 unfold Region.closedB closedT
 rw [zcy]
 congr 1
 funext j
 rw [gd]
 cases h:ops[j]? with
 | none=>rw [zdn h]
 | some o =>
  rw [zdm h]
  simp only
  rw [←needs_all]
  simp only [gd]
theorem reach_eq:∀ (fuel d:Nat),Region.reachB md ops i fuel d=reachT (rtab md ops).2 i fuel d
 | 0,_=>rfl
 | fuel+1,d=>by
  unfold Region.reachB reachT
  cases h:ops[d]? with
  | none=>rw [zdn h]
  | some o =>
   rw [zdm h]
   simp only
   rw [←needs_any]
   congr 1
   funext e
   rw [reach_eq fuel]
theorem last_eq:Region.lastB md ops l ds i=lastT (rtab md ops).2 l.toList ds i:=by
 unfold Region.lastB lastT
 rw [zcy]
 congr 1
 funext d
 rw [gd,reach_eq]
theorem readyAt_mem (h:readyAt T.2 l.toList i=true) (hT:rtab md ops=T):(Region.ready md ops l).contains i=true:=by
 subst hT
 rw [ready_eq]
 unfold readyT
 rw [List.contains_iff_mem,List.mem_filter,List.mem_range]
 refine ⟨?_,h⟩
 unfold readyAt at h
 rw [Bool.and_eq_true] at h
 cases hq:(rtab md ops).2[i]? with
 | none=>rw [hq] at h; simp at h
 | some r=>exact (List.getElem?_eq_some_iff.1 hq).1
theorem set_of (h:(l.toList.set i true == l'.toList)=true):(l.setIfInBounds i true == l')=true:=by
 rw [beq_iff_eq] at h ⊢
 apply Array.ext'
 rw [Array.toList_setIfInBounds]
 exact h
def anyT (T:Bool×List (List Nat×List Nat)) (l l':List Bool) (i:Nat):Bool:=T.1 && freeT T.2 l i && readyAt T.2 l i && (l.set i true == l')
theorem zbN (hT:rtab md ops=T) (h:anyT T l.toList l'.toList i=true):anyB md ops l l' i=true:=by
 simp only [anyT,Bool.and_eq_true] at h
 obtain ⟨⟨⟨h1,h2⟩,h3⟩,h4⟩:=h
 have h5:=readyAt_mem h3 hT
 have h6:=set_of h4
 subst hT
 simp only [anyB,Bool.and_eq_true]
 exact ⟨⟨⟨h1,by rw [free_eq]; exact h2⟩,h5⟩,h6⟩
def takeT (T:Bool×List (List Nat×List Nat)) (ds:List Nat) (l l':List Bool) (i:Nat):Bool:=T.1 && freeT T.2 l i && readyAt T.2 l i && closedT T.2 l && lastT T.2 l ds i && (l.set i true == l')
theorem take_of (hT:rtab md ops=T) (h:takeT T ds l.toList l'.toList i=true):takeB md ops ds l l' i=true:=by
 simp only [takeT,Bool.and_eq_true] at h
 obtain ⟨⟨⟨⟨⟨h1,h2⟩,h3⟩,h4⟩,h5⟩,h6⟩:=h
 have h7:=readyAt_mem h3 hT
 have h8:=set_of h6
 subst hT
 simp only [takeB,Bool.and_eq_true]
 exact ⟨⟨⟨⟨⟨h1,by rw [free_eq]; exact h2⟩,h7⟩,by rw [closed_eq]; exact h4⟩,by rw [last_eq]; exact h5⟩,h8⟩
theorem one_of (hT:rtab md ops=T) (h:(readyT T.2 l.toList == [i] && l.toList.set i true == l'.toList)=true):readyB md ops l l' i=true:=by
 simp only [Bool.and_eq_true] at h
 obtain ⟨h1,h2⟩:=h
 subst hT
 simp only [readyB,Bool.and_eq_true]
 exact ⟨by rw [ready_eq]; exact h1,set_of h2⟩
theorem done_of (hT:rtab md ops=T) (h:(readyT T.2 l.toList == [])=true):(Region.ready md ops l == [])=true:=by
 subst hT
 rw [ready_eq]
 exact h
def upM (B:List Nat) (d:Nat):List Nat→Nat
 | []=>0
 | n :: r=>(2^n ||| (if n<d then B.getD n 0 else 0)) ||| upM B d r
def waitsOk (T:List (List Nat×List Nat)) (B:List Nat):Bool:=(List.range T.length).all fun d=>match T[d]? with
 | some r=>(B.getD d 0 ||| upM B d r.1) == upM B d r.1
 | none=>false
theorem upM_bit {B:List Nat} {d i:Nat}:∀ {ns:List Nat},(upM B d ns).testBit i=true→∃ n∈ns,n=i∨(n<d∧(B.getD n 0).testBit i=true)
 | [],h=>by simp [upM] at h
 | n :: r,h=>by
  unfold upM at h
  rw [Nat.testBit_or,Nat.testBit_or,Bool.or_eq_true,Bool.or_eq_true] at h
  rcases h with (h|h)|h
  ·rw [Nat.testBit_two_pow] at h
   exact ⟨n,List.mem_cons_self,.inl (by simpa using h)⟩
  ·by_cases hn:n<d
   ·rw [if_pos hn] at h
    exact ⟨n,List.mem_cons_self,.inr ⟨hn,h⟩⟩
   ·rw [if_neg hn] at h
    simp at h
  ·obtain ⟨m,hm,h2⟩:=upM_bit h
   exact ⟨m,List.mem_cons_of_mem _ hm,h2⟩
theorem reach_bit {T:List (List Nat×List Nat)} {B:List Nat} (hB:waitsOk T B=true):∀ (fuel d:Nat),d<fuel→d<T.length→(B.getD d 0).testBit i=true→reachT T i fuel d=true
 | 0,d,h,_,_=>by omega
 | fuel+1,d,h,hd,hb=>by
  have h1:=List.all_eq_true.1 hB d (List.mem_range.2 hd)
  cases hr:T[d]? with
  | none=>rw [hr] at h1; simp at h1
  | some r =>
   rw [hr] at h1
   simp only [beq_iff_eq] at h1
   have h2:(upM B d r.1).testBit i=true:=by rw [←h1,Nat.testBit_or,hb,Bool.true_or]
   obtain ⟨n,hn,h3⟩:=upM_bit h2
   unfold reachT
   rw [hr]
   simp only
   rw [List.any_eq_true]
   refine ⟨n,hn,?_⟩
   rcases h3 with rfl|⟨h4,h5⟩
   ·simp
   ·rw [reach_bit hB fuel n (by omega) (by omega) h5,Bool.or_true]
def lastW (T:List (List Nat×List Nat)) (B:List Nat) (l:List Bool) (ds:List Nat) (i:Nat):Bool:=ds.all fun d=>l.getD d true || (decide (d<T.length) && (B.getD d 0).testBit i)
def takeW (T:Bool×List (List Nat×List Nat)) (B:List Nat) (ds:List Nat) (l l':List Bool) (i:Nat):Bool:=T.1 && freeT T.2 l i && readyAt T.2 l i && closedT T.2 l && lastW T.2 B l ds i && (l.set i true == l')
theorem zci {B:List Nat} (hT:rtab md ops=T) (hB:waitsOk T.2 B=true) (h:takeW T B ds l.toList l'.toList i=true):takeB md ops ds l l' i=true:=by
 refine take_of hT ?_
 simp only [takeW,takeT,Bool.and_eq_true] at h ⊢
 obtain ⟨⟨⟨⟨⟨h1,h2⟩,h3⟩,h4⟩,h5⟩,h6⟩:=h
 refine ⟨⟨⟨⟨⟨h1,h2⟩,h3⟩,h4⟩,?_⟩,h6⟩
 unfold lastW at h5
 unfold lastT
 rw [List.all_eq_true] at h5 ⊢
 intro d hd
 have h7:=h5 d hd
 rw [Bool.or_eq_true,Bool.and_eq_true,decide_eq_true_eq] at h7
 rcases h7 with h7|⟨h8,h9⟩
 ·rw [h7,Bool.true_or]
 ·rw [reach_bit hB _ d h8 h8 h9,Bool.or_true]
theorem with_tabW {P:Program} {Q:Exit→Act→World→Prop} {S:World→Prop} {n:Nat} {a:Act} {w:World} {B:List Nat} (hT:rtab md ops=T) (hB:waitsOk T.2 B=true) (h:Aside0 (rtab md ops=T)→Aside0 (waitsOk T.2 B=true)→wpAnyLast P md ops Q S ds n l a w):wpAnyLast P md ops Q S ds n l a w:=h ⟨hT⟩ ⟨hB⟩
end
def opsIn:Code→Nat→Option (Array Oper)
 | .region id ops _,k=>if id == k then some ops else none
 | .seq a b,k=>match opsIn a k with
  | some o=>some o
  | none=>opsIn b k
 | .cond _ a b,k=>match opsIn a k with
  | some o=>some o
  | none=>opsIn b k
 | .block _ c,k=>opsIn c k
 | .loop c,k=>opsIn c k
 | .scope c,k=>opsIn c k
 | .rangeFunc _ _ a b,k=>match opsIn a k with
  | some o=>some o
  | none=>opsIn b k
 | _,_=>none
def opsOf (f:Func) (k:Nat):Array Oper:=((f.body.bind fun c=>opsIn c k)).getD #[]
end Go.Proofs.W9.Wb
end
section
namespace Go.Proofs.W9.Wa
open Go.RowKit
namespace Kd
def tag {α:Type} (f:Nat→Nat) (d:Kd α):Kd (α×Nat) where
 sz:=d.sz
 E:=d.E
 K:=fun w x cs=>d.K w x.1 cs
 M:=fun w base ok x cs=>d.M w base (fun k=>ok k∧f k=x.2) x.1 cs
 K_len:=fun h=>d.K_len h
 K_one:=fun h=>d.K_one h
 K_below:=fun hb h=>d.K_below hb h
 K_of_M:=fun h=>d.K_of_M h
 M_mono:=fun hok h=>d.M_mono (fun k hk=>⟨hok k hk.1,hk.2⟩) h
 M_bound:=fun h=>d.M_mono (fun _ hk=>⟨⟨hk.1.1,hk.2⟩,hk.1.2⟩) (d.M_bound h)
 M_move:=fun hm h=>d.M_move (fun k hk=>hm k hk.1) h
 M_lower:=fun hb h=>d.M_lower hb h
def raw (sz:Nat):Kd (List Value) where
 sz:=sz
 E:=[]
 K:=fun _ x cs=>cs=x∧cs.length=sz∧∀ u∈cs,u.oneCell'=true
 M:=fun _ _ _ x cs=>cs=x∧cs.length=sz∧∀ u∈cs,u.oneCell'=true
 K_len:=fun h=>h.2.1
 K_one:=fun h=>h.2.2
 K_below:=fun _ h=>h
 K_of_M:=fun h=>h
 M_mono:=fun _ h=>h
 M_bound:=fun h=>h
 M_move:=fun _ h=>h
 M_lower:=fun _ h=>h
def S {α:Type} (d:Kd α) (e:Nat) (w:World) (base:Nat) (ok:Nat→Prop) (v:Value) (xs:List α):Prop:=∃ f,(tag f d).R e w base ok v xs.zipIdx
section
variable {α β:Type} {d:Kd α} {d':Kd β} {e e':Nat} {w w1 W:World} {base b:Nat} {ok ok' okv oku:Nat→Prop} {u v:Value} {xs:List α} {ys:List β}
theorem R_tight (hE:d.E = []) (h:d.R e w base ok v xs):d.R e w base (fun k=>some k=v.ownBlock) v xs:=by
 obtain ⟨h0,inner,ho,hr⟩:=h
 refine ⟨fun k hk=>hk.symm,inner,ho,hr.imp_ (fun p c hp=>d.M_mono (fun k hk => ?_) (d.M_bound hp))⟩
 obtain ⟨_,_,_,q,hq,_⟩:=hk
 rw [hE] at hq
 cases hq
theorem S_nil (d:Kd α) (e:Nat) (w:World) (base:Nat) (ok:Nat→Prop):S d e w base ok (.slice none 0 0) []:=⟨fun _=>0,R_nil _ _ _ _ _⟩
end
section
variable {α β:Type} {d:Kd α} {d':Kd β} {e e' g:Nat} {w w1 W:World} {base b:Nat} {ok ok' okv oku:Nat→Prop} {u v:Value} {xs:List α} {ys:List β}
end
section
variable {P:Program} {ops:Array Oper} {rest:List Oper} {o:Oper} {a:Act} {Q:Exit→Act→World→Prop} {Kc:Act→World→Prop} {α:Type}
end
def gap {α:Type} (f:Nat→Nat) (d:Kd α) (i:Nat) (c:List Value):Kd (α×Nat) where
 sz:=d.sz
 E:=d.E
 K:=fun w x cs=>(x.2=i→cs=c∧cs.length=d.sz∧∀ u∈cs,u.oneCell'=true)∧(x.2≠i→d.K w x.1 cs)
 M:=fun w base ok x cs=>(x.2=i→cs=c∧cs.length=d.sz∧∀ u∈cs,u.oneCell'=true)∧(x.2≠i→d.M w base (fun k=>ok k∧f k=x.2) x.1 cs)
 K_len:=fun {w x cs} h=>by
  by_cases hx:x.2=i
  ·exact (h.1 hx).2.1
  ·exact d.K_len (h.2 hx)
 K_one:=fun {w x cs} h=>by
  by_cases hx:x.2=i
  ·exact (h.1 hx).2.2
  ·exact d.K_one (h.2 hx)
 K_below:=fun hb h=>⟨h.1,fun hx=>d.K_below hb (h.2 hx)⟩
 K_of_M:=fun h=>⟨h.1,fun hx=>d.K_of_M (h.2 hx)⟩
 M_mono:=fun hok h=>⟨h.1,fun hx=>d.M_mono (fun k hk=>⟨hok k hk.1,hk.2⟩) (h.2 hx)⟩
 M_bound:=fun h=>⟨h.1,fun hx=>d.M_mono (fun _ hk=>⟨⟨hk.1.1,hk.2⟩,hk.1.2⟩) (d.M_bound (h.2 hx))⟩
 M_move:=fun hm h=>⟨h.1,fun hx=>d.M_move (fun k hk=>hm k hk.1) (h.2 hx)⟩
 M_lower:=fun hb h=>⟨h.1,fun hx=>d.M_lower hb (h.2 hx)⟩
def H {α:Type} (d:Kd α) (e:Nat) (w:World) (base:Nat) (ok:Nat→Prop) (v:Value) (xs:List α) (i:Int) (oki:Nat→Prop) (c:List Value):Prop:=
 (∀ k,oki k→ok k)∧∃ f,(gap f d i.toNat c).R e w base (fun k=>ok k∧¬ oki k) v xs.zipIdx
section
variable {α β:Type} {d:Kd α} {e e' g n cap:Nat} {w w1 W:World} {base:Nat} {ok ok' oki okp:Nat→Prop} {u v:Value} {xs:List α} {i:Int} {c:List Value}
end
section
variable {P:Program} {ops:Array Oper} {rest:List Oper} {o:Oper} {a:Act} {Q:Exit→Act→World→Prop} {α:Type}
end
end Kd
end Go.Proofs.W9.Wa
end
section
namespace Go.Proofs.W9.Wa
open Go.RowKit
namespace Kd
section
variable {α:Type} {n:Nat} {d:Kd α} {hs:0<d.sz} {w:World} {base:Nat} {ok:Nat→Prop} {xs:List α} {cs:List Value}
end
section
variable {α:Type} {n:Nat} {enc:α→Value} {h1:∀ x,(enc x).oneCell'=true} {hs:0<(scalar enc h1).sz} {w:World} {base:Nat} {ok:Nat→Prop} {xs:List α} {cs:List Value}
theorem reps_encs (h:Reps (fun (x:α) (cs:List Value)=>cs = [enc x]) 1 xs cs):cs=encs enc xs:=by
 apply List.ext_getElem?
 intro j
 have hl:=h.1
 rw [Nat.mul_one] at hl
 rcases Nat.lt_or_ge j xs.length with hj|hj
 ·have h2:=h.2 j _ (List.getElem?_eq_getElem hj)
  have hj':j<cs.length:=by omega
  rw [Nat.mul_one,List.drop_eq_getElem_cons hj'] at h2
  have h5:=congrArg List.head? h2
  rw [List.take_succ_cons] at h5
  have h4:cs[j]=enc xs[j]:=Option.some.inj h5
  rw [List.getElem?_eq_getElem hj',h4]
  simp [encs,List.getElem?_eq_getElem hj]
 ·rw [List.getElem?_eq_none (by omega),List.getElem?_eq_none (by rw [zdc]; omega)]
end
end Kd
end Go.Proofs.W9.Wa
end
section
namespace Go.Proofs.W9.Wa
open Go.RowKit
namespace Kd
structure Heap {α:Type} (d:Kd α):Prop where
 K:∀ {w w1:World} {x:α} {cs:List Value},(∀ k,k<w.heap.size→w1.heap[k]? = w.heap[k]?)→d.K w x cs→d.K w1 x cs
theorem cell_heap {w w1:World} (hb:∀ k,k<w.heap.size→w1.heap[k]? = w.heap[k]?) {a:Addr} {v:Value} (h:w.cell? a=some v):w1.cell? a=some v:=by
 have:=hb a.block (World.block_lt_of_cell? w a h)
 simpa [World.cell?,this] using h
theorem Heap.C {α:Type} {d:Kd α} (hd:Heap d) {w w1:World} {A:Option Addr} {n:Nat} {xs:List α} (hb:∀ k,k<w.heap.size→w1.heap[k]? = w.heap[k]?) (h:d.C w A n xs):d.C w1 A n xs:=
 ⟨h.1,h.2.1,fun hn=>by
  obtain ⟨ad,e,hc⟩:=h.2.2 hn
  refine ⟨ad,e,fun j p hj => ?_⟩
  obtain ⟨c,hs,hr,hcell⟩:=hc j p hj
  exact ⟨c,hs,hd.K hb hr,fun i u hu=>cell_heap hb (hcell i u hu)⟩⟩
theorem heap_int (k:IntKind):Heap (Kd.int k):=⟨fun _ h=>h⟩
section
variable {α:Type} {d:Kd α} {e base g n c:Nat} {ok:Nat→Prop} {w w0 W:World} {A:Option Addr} {xs:List α}
end
end Kd
end Go.Proofs.W9.Wa
end
section
namespace Go.Proofs.W9.Wa
open Go.RowKit
def Kept (w W:World) (S:Nat→Prop):Prop:=w.heap.size≤W.heap.size∧∀ i,i<w.heap.size→¬ S i→W.heap[i]? = w.heap[i]?
section
variable {w W W2:World} {S S2 S':Nat→Prop}
theorem Kept.refl (w:World) (S:Nat→Prop):Kept w w S:=⟨Nat.le_refl _,fun _ _ _=>rfl⟩
theorem Kept.of_below (h:Below w.heap.size w W) (S:Nat→Prop):Kept w W S:=⟨h.size,fun i hi _=>h.block i hi⟩
theorem Kept.then_ (h:Kept w W S) (k:Kept W W2 S2) (hs:∀ k,S2 k→S k∨w.heap.size≤k):Kept w W2 S:=
 ⟨Nat.le_trans h.1 k.1,fun i hi hn=>(k.2 i (Nat.lt_of_lt_of_le hi h.1) (fun h2=>(hs i h2).elim hn (fun h3=>by omega))).trans (h.2 i hi hn)⟩
theorem Kept.below (h:Kept w W S) (hb:Below W.heap.size W W2):Kept w W2 S:=h.then_ (Kept.of_below hb (fun _=>False)) (fun _ hk=>hk.elim)
theorem Kept.alloc (h:Kept w W S) (o:Obj):Kept w (W.alloc o) S:=h.below (zaa (Below.refl _ _) o)
theorem Kept.drew (h:Kept w W S):Kept w W.drew S:=h
theorem Kept.drewN (h:Kept w W S) (m:Nat):Kept w (W.drewN m) S:=h
theorem Kept.setCell (h:Kept w W S) {p:Addr} (hp:S p.block∨w.heap.size≤p.block) (u:Value):Kept w (W.setCell p u) S:=
 h.then_ (S2:=fun k=>k=p.block) ⟨by simp [World.setCell],fun i _ hn=>Below.heap_setCell W p u i hn⟩ (fun k hk=>by rw [hk]; exact hp)
theorem Kept.keep {g:Nat} (h:KeepBut w W g none) (k:Kept W W2 S2) (hs:∀ k,S2 k→w.heap.size≤k):KeepBut w W2 g none:=
 ⟨Nat.le_trans h.1 k.1,fun i hi hg hr=>(k.2 i (Nat.lt_of_lt_of_le hi h.1) (fun h2=>by have:=hs i h2; omega)).trans (h.2 i hi hg hr)⟩
theorem blk_kept {g:Nat} {o:Obj} (hb:W.heap[g]? = some o) (hk:Kept W W2 S) (hne:¬ S g):W2.heap[g]? = some o:=(hk.2 g (zaq hb) hne).trans hb
end
namespace Kd
section
variable {α:Type} {d:Kd α} {e base n c:Nat} {ok oki S S2:Nat→Prop} {w w0 W W1 W2:World} {v:Value} {A:Option Addr} {xs:List α} {i:Int} {cs:List Value}
end
end Kd
end Go.Proofs.W9.Wa
end
section
namespace Go.Proofs.W9.Wa
open Go.RowKit
def Foot (P:World→Prop) (W:World) (ok:Nat→Prop):Prop:=∀ W':World,(∀ k,ok k→k<W.heap.size→W'.heap[k]? = W.heap[k]?)→P W'
theorem heap_lt {W W1:World} {k:Nat} (h:W1.heap[k]? = W.heap[k]?) (hlt:k<W.heap.size):k<W1.heap.size:=by
 rw [Array.getElem?_eq_getElem hlt] at h
 exact (Array.getElem?_eq_some_iff.1 h).1
namespace Foot
variable {P Q:World→Prop} {W W1:World} {ok ok':Nat→Prop}
theorem now (h:Foot P W ok):P W:=h W (fun _ _ _=>rfl)
theorem mono (h:Foot P W ok) (hok:∀ k,ok k→ok' k):Foot P W ok':=fun W' hW=>h W' (fun k hk hlt=>hW k (hok k hk) hlt)
theorem bound (h:Foot P W ok):Foot P W (fun k=>ok k∧k<W.heap.size):=fun W' hW=>h W' (fun k hk hlt=>hW k ⟨hk,hlt⟩ hlt)
theorem step (h:Foot P W ok) (hm:∀ k,ok k→k<W.heap.size→W1.heap[k]? = W.heap[k]?):Foot P W1 ok:=fun W' hW=>h W' (fun k hk hlt=>(hW k hk (heap_lt (hm k hk hlt) hlt)).trans (hm k hk hlt))
theorem imp (h:Foot P W ok) (hi:∀ W',P W'→Q W'):Foot Q W ok:=fun W' hW=>hi W' (h W' hW)
theorem old (h:Foot P W ok) (hb:Below W.heap.size W W1):Foot P W1 (fun k=>ok k∧k<W.heap.size):=(h.bound).step (fun k _ hlt=>hb.block k hlt)
end Foot
namespace Kd
def F {α:Type} (d:Kd α) (W:World) (ok:Nat→Prop) (A:Option Addr) (n:Nat) (xs:List α):Prop:=Foot (fun W=>d.C W A n xs) W ok
def FK {α:Type} (d:Kd α) (W:World) (ok:Nat→Prop) (x:α) (c:List Value):Prop:=Foot (fun W=>d.K W x c) W ok
section
variable {α β:Type} {d:Kd α} {e base n n' cc g N:Nat} {ok ok' okp S:Nat→Prop} {w w0 w1 W W1:World} {A A':Option Addr} {u v v1:Value} {xs:List α} {xs':List β} {d':Kd β} {x:α} {c:List Value}
theorem F_now (h:F d W ok A n xs):d.C W A n xs:=Foot.now h
theorem F_mono (h:F d W ok A n xs) (hok:∀ k,ok k→ok' k):F d W ok' A n xs:=Foot.mono h hok
theorem F_bound (h:F d W ok A n xs):F d W (fun k=>ok k∧k<W.heap.size) A n xs:=Foot.bound h
theorem F_step (h:F d W ok A n xs) (hm:∀ k,ok k→k<W.heap.size→W1.heap[k]? = W.heap[k]?):F d W1 ok A n xs:=Foot.step h hm
theorem F_imp (h:F d W ok A n xs) (hi:∀ W',d.C W' A n xs→d'.C W' A' n' xs'):F d' W ok A' n' xs':=Foot.imp h hi
theorem F_below (h:F d W ok A n xs) (hb:Below W.heap.size W W1):F d W1 ok A n xs:=F_step h (fun k _ hlt=>hb.block k hlt)
theorem F_alloc (h:F d W ok A n xs) (o:Obj):F d (W.alloc o) ok A n xs:=F_below h (zaa (Below.refl _ _) o)
theorem F_drew (h:F d W ok A n xs):F d W.drew ok A n xs:=F_below h (zan (Below.refl _ _))
theorem F_drewN (h:F d W ok A n xs) (m:Nat):F d (W.drewN m) ok A n xs:=F_below h (zab (Below.refl _ _) m)
theorem F_nil (d:Kd α) (W:World) (ok:Nat→Prop):F d W ok none ([]:List α).length []:=fun W' _=>C_nil d W'
theorem F_after (h:F d W (fun k=>ok k∧some k≠v.ownBlock) A n xs) (hg:W.grownBy W1 v.ownBlock) (hat:v1.ownBlock=v.ownBlock∨∃ b,v1.ownBlock=some b∧W.heap.size≤b):F d W1 (fun k=>ok k∧some k≠v1.ownBlock) A n xs:=by
 refine F_mono (Foot.step (F_bound h) (fun k hk hlt=>hg.block k hlt hk.1.2)) (fun k hk=>⟨hk.1.1,?_⟩)
 rcases hat with hat|⟨b,hb,hle⟩
 ·rw [hat]; exact hk.1.2
 ·rw [hb]
  intro he
  injection he with he
  have:=hk.2
  omega
theorem C_F (hd:Heap d) (h:d.C w A n xs):F d w (fun k=>k<w.heap.size) A n xs:=fun _ hW=>hd.C (fun k hlt=>hW k hlt hlt) h
theorem R_F (h:d.R e W base ok (.slice A n cc) xs):F d W ok A n xs:=fun W' hW=>by
 have h2:=R_reads' (R_step h hW)
 rw [h2.1]
 exact h2.2.2
theorem FK_of_M (h:d.M W base ok x c):FK d W ok x c:=fun _ hW=>d.K_of_M (M_step h hW)
end
end Kd
end Go.Proofs.W9.Wa
end
section
namespace Go.Proofs.W9.Wa
open Go.RowKit
namespace Kd
def chunks (sz:Nat) (n:Nat) (inner:List Value):List (List Value):=(List.range n).map fun j=>(inner.drop (j*sz)).take sz
theorem zbM (sz n:Nat) (inner:List Value):(chunks sz n inner).length=n:=by simp [chunks]
theorem chunks_at {sz n:Nat} {inner:List Value} {j:Nat} (hj:j<n):(chunks sz n inner)[j]? = some ((inner.drop (j*sz)).take sz):=by simp [chunks,hj]
theorem chunks_get {sz n:Nat} {inner:List Value} {j:Nat} {c:List Value} (h:(chunks sz n inner)[j]? = some c):c=(inner.drop (j*sz)).take sz:=by
 have hj:j<n:=by have:=(List.getElem?_eq_some_iff.1 h).1; rwa [zbM] at this
 rw [chunks_at hj] at h
 injection h with h
 exact h.symm
theorem reps_raw {α:Type} {Rr:α→List Value→Prop} {sz:Nat} {xs:List α} {inner:List Value} (h:Reps Rr sz xs inner) (hR:∀ x c,Rr x c→c.length=sz∧∀ u∈c,u.oneCell'=true):Reps (fun x cs=>cs=x∧cs.length=sz∧∀ u∈cs,u.oneCell'=true) sz (chunks sz xs.length inner) inner:=by
 refine ⟨by rw [zbM]; exact h.1,fun j p hj => ?_⟩
 have hjl:j<xs.length:=by have:=(List.getElem?_eq_some_iff.1 hj).1; rwa [zbM] at this
 have hp:=chunks_get hj
 exact ⟨hp.symm,hR _ _ (h.2 j _ (List.getElem?_eq_getElem hjl))⟩
section
variable {α:Type} {d:Kd α} {e base n cc g:Nat} {ok ok' okp S:Nat→Prop} {w w1 W W1:World} {A:Option Addr} {u v v1:Value} {xs:List α} {x:α} {c:List Value}
def N {α:Type} (d:Kd α) (e:Nat) (w:World) (base:Nat) (ok:Nat→Prop) (v:Value) (xs:List α):Prop:=
 (∀ k,v.ownBlock=some k→ok k)∧∃ rows:List (List Value),rows.length=xs.length∧(raw d.sz).R e w base (fun k=>some k=v.ownBlock) v rows∧∀ (j:Nat) (x:α) (c:List Value),xs[j]? = some x→rows[j]? = some c→FK d w (fun k=>ok k∧some k≠v.ownBlock) x c
theorem R_N (h:d.R e w base ok v xs):N d e w base ok v xs:=by
 obtain ⟨h0,inner,ho,hr⟩:=h
 refine ⟨h0,chunks d.sz xs.length inner,zbM _ _ _,⟨fun k hk=>hk.symm,inner,by rw [zbM]; exact ho,reps_raw hr (fun x c hp=>⟨d.K_len (d.K_of_M hp),d.K_one (d.K_of_M hp)⟩)⟩,fun j x c hx hc => ?_⟩
 rw [chunks_get hc]
 exact FK_of_M (hr.2 j x hx)
theorem N_nil (d:Kd α) (e:Nat) (w:World) (base:Nat) (ok:Nat→Prop):N d e w base ok (.slice none 0 0) []:=R_N (R_nil _ _ _ _ _)
end
end Kd
end Go.Proofs.W9.Wa
end
section
namespace Go.Proofs.W9.Wa
open Go.RowKit
section
variable {w w' u:World} {m B g:Nat} {o:Obj} {row:Option Nat} {S:Nat→Prop} {a:Addr} {v:Value}
theorem below_at (hq:w.drewN m=w') (h:Below B u w):Below B u w':=by subst hq; exact zab h m
end
namespace Kd
section
variable {α:Type} {d:Kd α} {e base n m:Nat} {ok:Nat→Prop} {w w':World} {v:Value} {A:Option Addr} {xs:List α}
theorem R_at (hq:w.drewN m=w') (h:d.R e w base ok v xs):d.R e w' base ok v xs:=by subst hq; exact R_drewN h m
end
end Kd
end Go.Proofs.W9.Wa
end
section
namespace Go.Proofs.W9.Wa
open Go.RowKit
section
variable {P:Program} {d:Nat} {xs ys:Array Value} {f:Field} {fs:List Field} {a b:Value} {r s:Bool} {w:World}
theorem eqf_last (hn:(f.name == "_")=false) (ha:(part f.type xs f.offset).run P w = .ok a w) (hb:(part f.type ys f.offset).run P w = .ok b w) (he:(Op.equalIn d f.type a b).run P w = .ok r w):(Op.eqFields d xs ys [f]).run P w = .ok r w:=by
 have hn':f.name ≠ "_":=by simpa using hn
 simp only [Op.eqFields,if_pos hn',Sem.run_bind,ha,hb,he,Result.andThen_ok]
 cases r<;>simp
theorem eqf_cons (hn:(f.name == "_")=false) (ha:(part f.type xs f.offset).run P w = .ok a w) (hb:(part f.type ys f.offset).run P w = .ok b w) (he:(Op.equalIn d f.type a b).run P w = .ok r w) (hr:(Op.eqFields d xs ys fs).run P w = .ok s w):(Op.eqFields d xs ys (f :: fs)).run P w = .ok (r && s) w:=by
 have hn':f.name ≠ "_":=by simpa using hn
 rw [Op.eqFields]
 simp only [if_pos hn',Sem.run_bind,ha,hb,he,Result.andThen_ok]
 cases r
 ·simp
 ·simpa using hr
theorem eqA_of {t:TypeId} {fs:Array Field} (hu:P.underlying t=some (.struct fs)) (hp:P.stoodInHeld t=false) (h:(Op.eqFields d xs ys fs.toList).run P w = .ok r w):(Op.equalIn (d+1) t (.agg xs) (.agg ys)).run P w = .ok r w:=by
 have hf:P.fieldsOf t=fs:=by simp [Program.fieldsOf,hu]
 rw [run_equalIn_struct (P:=P) w d t xs ys (by rw [hf]; exact hu) hp,hf]
 exact h
end
end Go.Proofs.W9.Wa
end
section
namespace Go.Proofs.W9.Wa
theorem Reps.one {α:Type} {R:α→List Value→Prop} {ps:List α} {cs:List Value} {p:α} {v:Value} (hp:R p [v]) (h:Reps R 1 ps cs):Reps R 1 (p :: ps) (v :: cs):=by
 refine ⟨by simp [h.1],fun j q hq => ?_⟩
 cases j with
 | zero =>
  simp only [List.getElem?_cons_zero,Option.some.injEq] at hq
  subst hq
  simpa using hp
 | succ j =>
  simp only [List.getElem?_cons_succ] at hq
  have h1:=h.2 j q hq
  simpa [Nat.mul_one] using h1
theorem Reps.front {α:Type} {R:α→List Value→Prop} {size:Nat} {ps:List α} {cs c all:List Value} {p:α} (hp:R p c) (hc:c.length=size) (h:Reps R size ps cs) (ha:c++cs=all):Reps R size (p :: ps) all:=by
 subst ha
 refine ⟨by rw [List.length_append,hc,h.1,List.length_cons,Nat.succ_mul,Nat.add_comm],fun j q hq => ?_⟩
 cases j with
 | zero =>
  simp only [List.getElem?_cons_zero,Option.some.injEq] at hq
  subst hq
  rw [Nat.zero_mul,List.drop_zero,List.take_append_of_le_length (by omega),List.take_of_length_le (by omega)]
  exact hp
 | succ j =>
  simp only [List.getElem?_cons_succ] at hq
  have h1:=h.2 j q hq
  rw [Nat.succ_mul,List.drop_append,List.drop_of_length_le (by rw [hc]; exact Nat.le_add_left _ _),List.nil_append,hc,Nat.add_sub_cancel]
  exact h1
theorem Reps.c2 {α:Type} {R:α→List Value→Prop} {ps:List α} {cs:List Value} {p:α} {va vb:Value} (hp:R p [va,vb]) (h:Reps R 2 ps cs):Reps R 2 (p :: ps) (va :: vb :: cs):=Reps.front hp rfl h rfl
theorem Reps.c3 {α:Type} {R:α→List Value→Prop} {ps:List α} {cs:List Value} {p:α} {va vb vc:Value} (hp:R p [va,vb,vc]) (h:Reps R 3 ps cs):Reps R 3 (p :: ps) (va :: vb :: vc :: cs):=Reps.front hp rfl h rfl
theorem Reps.c4 {α:Type} {R:α→List Value→Prop} {ps:List α} {cs:List Value} {p:α} {va vb vc vd:Value} (hp:R p [va,vb,vc,vd]) (h:Reps R 4 ps cs):Reps R 4 (p :: ps) (va :: vb :: vc :: vd :: cs):=Reps.front hp rfl h rfl
theorem Reps.c5 {α:Type} {R:α→List Value→Prop} {ps:List α} {cs:List Value} {p:α} {va vb vc vd ve:Value} (hp:R p [va,vb,vc,vd,ve]) (h:Reps R 5 ps cs):Reps R 5 (p :: ps) (va :: vb :: vc :: vd :: ve :: cs):=Reps.front hp rfl h rfl
theorem Reps.c6 {α:Type} {R:α→List Value→Prop} {ps:List α} {cs:List Value} {p:α} {va vb vc vd ve vf:Value} (hp:R p [va,vb,vc,vd,ve,vf]) (h:Reps R 6 ps cs):Reps R 6 (p :: ps) (va :: vb :: vc :: vd :: ve :: vf :: cs):=Reps.front hp rfl h rfl
theorem Reps.c7 {α:Type} {R:α→List Value→Prop} {ps:List α} {cs:List Value} {p:α} {va vb vc vd ve vf vg:Value} (hp:R p [va,vb,vc,vd,ve,vf,vg]) (h:Reps R 7 ps cs):Reps R 7 (p :: ps) (va :: vb :: vc :: vd :: ve :: vf :: vg :: cs):=Reps.front hp rfl h rfl
theorem Reps.c8 {α:Type} {R:α→List Value→Prop} {ps:List α} {cs:List Value} {p:α} {va vb vc vd ve vf vg vh:Value} (hp:R p [va,vb,vc,vd,ve,vf,vg,vh]) (h:Reps R 8 ps cs):Reps R 8 (p :: ps) (va :: vb :: vc :: vd :: ve :: vf :: vg :: vh :: cs):=Reps.front hp rfl h rfl
theorem Reps.c9 {α:Type} {R:α→List Value→Prop} {ps:List α} {cs:List Value} {p:α} {va vb vc vd ve vf vg vh vi:Value} (hp:R p [va,vb,vc,vd,ve,vf,vg,vh,vi]) (h:Reps R 9 ps cs):Reps R 9 (p :: ps) (va :: vb :: vc :: vd :: ve :: vf :: vg :: vh :: vi :: cs):=Reps.front hp rfl h rfl
theorem Reps.c10 {α:Type} {R:α→List Value→Prop} {ps:List α} {cs:List Value} {p:α} {va vb vc vd ve vf vg vh vi vj:Value} (hp:R p [va,vb,vc,vd,ve,vf,vg,vh,vi,vj]) (h:Reps R 10 ps cs):Reps R 10 (p :: ps) (va :: vb :: vc :: vd :: ve :: vf :: vg :: vh :: vi :: vj :: cs):=Reps.front hp rfl h rfl
end Go.Proofs.W9.Wa
end
section
namespace Go.Proofs.W9.Wb
def up (b:Nat→Bool) (i:Nat):Nat→Bool:=fun j=>if j=i then true else b j
section
variable {P:Program} {ops:Array Oper} {Q:Exit→Act→World→Prop} {md:Region.Mode} {T:Bool×List (List Nat×List Nat)} {B:List Nat} {O:List Nat} {b:Nat→Bool} {i j n:Nat}
end
end Go.Proofs.W9.Wb
end
section
namespace Go.Proofs.W9.Wa
open Go.RowKit
section
variable {P:Program} {ops:Array Oper} {rest:List Oper} {o:Oper} {a:Act} {Q:Exit→Act→World→Prop} {W:World}
theorem zcb (hw:Region.wanted o (yielded ops a.tmps)=true) (h:wpList P ops Q ({ o with guard:=none } :: rest) a W):wpList P ops Q (o :: rest) a W:=by
 have h1:Region.wanted { o with guard:=none } (yielded ops a.tmps)=true:=rfl
 unfold wpList at h ⊢
 rw [if_pos h1] at h
 rw [if_pos hw]
 exact h
end
end Go.Proofs.W9.Wa
end
section
namespace Go.Proofs.W9.Wc
open Go.RowKit Go.Proofs.W9.Wa
namespace Kd
open Go.Proofs.W9.Wa.Kd
end Kd
namespace Kd
open Go.Proofs.W9.Wa.Kd
section
variable {α:Type} {d:Kd α} {e base g N:Nat} {ok:Nat→Prop} {W w1:World} {u v:Value} {xs:List α}
end
end Kd
theorem zaC (k k':IntKind) (x y:Int):Builtin.max2 (.int k x) (.int k' y)=pure (.int k (if x<y then y else x)):=by simp only [Builtin.max2,gt_iff_lt]
theorem zaB (k k':IntKind) (x y:Int):Builtin.min2 (.int k x) (.int k' y)=pure (.int k (if y<x then y else x)):=by simp only [Builtin.min2]
theorem zaL (ats:Array TypeId) (ty:TypeId) (a b:Value):Builtin.max_ ats ty #[a,b]=(Builtin.max2 a b >>= fun s=>pure s):=by simp only [Builtin.max_,List.foldlM_cons,List.foldlM_nil]
theorem zaK (ats:Array TypeId) (ty:TypeId) (a b:Value):Builtin.min_ ats ty #[a,b]=(Builtin.min2 a b >>= fun s=>pure s):=by simp only [Builtin.min_,List.foldlM_cons,List.foldlM_nil]
theorem zaz (ats:Array TypeId) (ty:TypeId) (a b c:Value):Builtin.max_ ats ty #[a,b,c]=(Builtin.max2 a b >>= fun s=>Builtin.max2 s c >>= fun s=>pure s):=by simp only [Builtin.max_,List.foldlM_cons,List.foldlM_nil]
theorem zay (ats:Array TypeId) (ty:TypeId) (a b c:Value):Builtin.min_ ats ty #[a,b,c]=(Builtin.min2 a b >>= fun s=>Builtin.min2 s c >>= fun s=>pure s):=by simp only [Builtin.min_,List.foldlM_cons,List.foldlM_nil]
theorem zaE (ats:Array TypeId) (ty:TypeId) (a b c d:Value):Builtin.max_ ats ty #[a,b,c,d]=(Builtin.max2 a b >>= fun s=>Builtin.max2 s c >>= fun s=>Builtin.max2 s d >>= fun s=>pure s):=by simp only [Builtin.max_,List.foldlM_cons,List.foldlM_nil]
theorem zaD (ats:Array TypeId) (ty:TypeId) (a b c d:Value):Builtin.min_ ats ty #[a,b,c,d]=(Builtin.min2 a b >>= fun s=>Builtin.min2 s c >>= fun s=>Builtin.min2 s d >>= fun s=>pure s):=by simp only [Builtin.min_,List.foldlM_cons,List.foldlM_nil]
end Go.Proofs.W9.Wc
namespace Go.Proofs.W9.Wa
open Go.RowKit
section
variable {P:Program} {ops:Array Oper} {rest:List Oper} {o:Oper} {a:Act} {Q:Exit→Act→World→Prop} {W:World}
theorem zau {f:FuncId} {as0:Array Operand} {ts:Array TypeId} (_ho:o.op = .call { callee:=.value (.func f),args:=as0,argTypes:=ts }) (h:wpList P ops Q (o :: rest) a W):wpList P ops Q (o :: rest) a W:=h
theorem zb1 {b:Builtin} {xs:Array Operand} {ts:Array TypeId} (_ho:o.op = .call { callee:=.builtin b,args:=xs,argTypes:=ts }) (h:wpList P ops Q (o :: rest) a W):wpList P ops Q (o :: rest) a W:=h
end
def shl (k:IntKind) (x y:Int):Int:=k.wrap (x*2^min y.toNat k.bits)
def shr (k:IntKind) (x y:Int):Int:=x/2^min y.toNat k.bits
theorem shl_small {k:IntKind} {x y j:Int} (h:shl k x y=j) (hy:y≤k.bits):k.wrap (x*2^y.toNat)=j:=by rw [←h]; unfold shl; rw [Nat.min_eq_left (by omega)]
theorem shr_small {k:IntKind} {x y j:Int} (h:shr k x y=j) (hy:y≤k.bits):x/2^y.toNat=j:=by rw [←h]; unfold shr; rw [Nat.min_eq_left (by omega)]
theorem zc0 (w:World) (n:Nat):w.drewN n=w.drewN n:=rfl
namespace Kd
section
variable {α:Type} {d:Kd α} {e base:Nat} {ok:Nat→Prop} {W w1:World} {v:Value} {xs:List α}
end
section
variable {α:Type} {d:Kd α} {e base g n cap:Nat} {ok oki okp:Nat→Prop} {W:World} {xs:List α} {i:Int} {c:List Value}
end
section
variable {α:Type} {d:Kd α} {e base b b' g N:Nat} {ok ok1:Nat→Prop} {W W2 w1:World} {u v:Value} {xs ys:List α} {S:Nat→Prop}
end
end Kd
end Go.Proofs.W9.Wa
namespace Go.Proofs.W9.Wa
open Go.RowKit
namespace Kd
def V {α:Type} (d:Kd α) (_e:Nat) (W:World) (_base:Nat) (ok:Nat→Prop) (v:Value) (xs:List α):Prop:=∃ A c,v = .slice A xs.length c∧xs.length≤c∧F d W ok A xs.length xs
section
variable {α β:Type} {d:Kd α} {e base base' n m c g N' lo hi:Nat} {ok ok' S:Nat→Prop} {w W w1:World} {A:Option Addr} {ad:Addr} {u v v1:Value} {xs:List α}
theorem V_map (h:V d e W base ok v xs) (hF:∀ A,F d W ok A xs.length xs→F d w1 ok' A xs.length xs):V d e w1 base' ok' v xs:=by
 obtain ⟨A,c,hv,hl,hf⟩:=h
 exact ⟨A,c,hv,hl,hF A hf⟩
theorem V_mk (hl:xs.length≤c) (hf:F d W ok A xs.length xs):V d e W base ok (.slice A xs.length c) xs:=⟨A,c,rfl,hl,hf⟩
theorem V_slice (h:V d e W base ok v xs):∃ A c,v = .slice A xs.length c:=by
 obtain ⟨A,c,hv,_⟩:=h
 exact ⟨A,c,hv⟩
theorem V_at (h:V d e W base ok (.slice A n c) xs):n=xs.length∧n≤c∧F d W ok A xs.length xs:=by
 obtain ⟨A',c',hv,hl,hf⟩:=h
 injection hv with ha hn hc
 subst ha; subst hc
 exact ⟨hn,by rw [hn]; exact hl,hf⟩
theorem V_reads' (h:V d e W base ok (.slice A n c) xs):n=xs.length∧n≤c∧d.C W A xs.length xs:=⟨(V_at h).1,(V_at h).2.1,F_now (V_at h).2.2⟩
theorem V_nil (d:Kd α) (e:Nat) (W:World) (base:Nat) (ok:Nat→Prop):V d e W base ok (.slice none 0 0) []:=⟨none,0,rfl,Nat.le_refl _,F_nil d W ok⟩
theorem R_V (h:d.R e W base ok v xs):V d e W base' ok v xs:=by
 obtain ⟨A,c,rfl⟩:=R_slice h
 exact ⟨A,c,rfl,(R_reads' h).2.1,R_F h⟩
theorem V_mono (h:V d e W base ok v xs) (hok:∀ k,ok k→ok' k):V d e W base ok' v xs:=V_map h (fun _ hf=>F_mono hf hok)
theorem V_lower (h:V d e W base ok v xs) (_:base'≤base):V d e W base' ok v xs:=h
theorem V_below (h:V d e W base ok v xs) (hb:Below W.heap.size W w1):V d e w1 base ok v xs:=V_map h (fun _ hf=>F_below hf hb)
theorem V_alloc (h:V d e W base ok v xs) (o:Obj):V d e (W.alloc o) base ok v xs:=V_map h (fun _ hf=>F_alloc hf o)
theorem V_drew (h:V d e W base ok v xs):V d e W.drew base ok v xs:=V_map h (fun _ hf=>F_drew hf)
theorem V_drewN (h:V d e W base ok v xs) (m:Nat):V d e (W.drewN m) base ok v xs:=V_map h (fun _ hf=>F_drewN hf m)
theorem V_after (h:V d e W base (fun k=>ok k∧some k≠u.ownBlock) v xs) (hg:W.grownBy w1 u.ownBlock) (hat:v1.ownBlock=u.ownBlock∨∃ b,v1.ownBlock=some b∧W.heap.size≤b):V d e w1 base (fun k=>ok k∧some k≠v1.ownBlock) v xs:=V_map h (fun _ hf=>F_after hf hg hat)
theorem V_afterv (h:V d e W base (fun k=>ok k∧some k≠v.ownBlock) u xs) (hg:W.grownBy w1 v.ownBlock) (hat:v1.ownBlock=v.ownBlock∨∃ b,v1.ownBlock=some b∧W.heap.size≤b):V d e w1 base (fun k=>ok k∧some k≠v1.ownBlock) u xs:=V_after h hg hat
theorem F_take (h:F d W ok A xs.length xs) (hm:m≤xs.length):F d W ok A (xs.take m).length (xs.take m):=F_imp h (fun _ hC=>C_take hC hm)
theorem R_newM {M:Nat→Prop} (h:d.R e w1 W.heap.size ok v xs) (hle:w.heap.size≤W.heap.size) (hM:∀ k,w.heap.size≤k→M k):d.R e w1 W.heap.size (fun k=>M k∧ok k) v xs:=R_mono (R_bound h) (fun k hk=>⟨hM k (Nat.le_trans hle hk.2.1),hk.1⟩)
end
end Kd
end Go.Proofs.W9.Wa
end
section
namespace Go.Proofs.P9
open Go.RowKit Go.Proofs.W9.Wa Go.Proofs.W9.Wb Go.Proofs.W9.Wc
attribute [local go_sem] zaC zaB zaL zaK zaz zay zaE zaD
set_option linter.unusedVariables false
set_option linter.unusedSimpArgs false
def errW:Option Int→Value
 | none => .nilIface
 | some c => .iface 0 (.int .i64 c)
theorem zal:errW none = .nilIface:=rfl
theorem zak (c:Int):errW (some c) = .iface 0 (.int .i64 c):=rfl
theorem info3:(Tryz.prog.info? 3).map (fun i=>(i.zero,i.size,i.bytes))=some (some (.int .i64 0),1,8):=by kernel_rfl
theorem info171:(Tryz.prog.info? 171).map (fun i=>(i.zero,i.size,i.bytes))=some (some (.int .u32 0),1,4):=by kernel_rfl
end Go.Proofs.P9
end
section
namespace Go.Proofs.P9
open Go.RowKit Go.Proofs.W9.Wa Go.Proofs.W9.Wb Go.Proofs.W9.Wc
attribute [local go_sem] zaC zaB zaL zaK zaz zay zaE zaD
set_option linter.unusedVariables false
set_option linter.unusedSimpArgs false
def ample_compare.l0:Nat→List Int→List Int→Int→Option (Int)
 | 0,_,_,_=>none
 | k+1,x0,x1,x5=>if x5≥0 then (if 0≤x5 then (if x5<(x0.length:Int) then (if x5<(x1.length:Int) then (if (rd x0 x5)=(rd x1 x5) then (ample_compare.l0 k x0 x1 (wrap64 (x5-1))) else (if (rd x0 x5)<(rd x1 x5) then (some (-1)) else (some 1))) else (none)) else (none)) else (none)) else (some 0)
def ample_compare.f (k:Nat) (l0:List Int) (l1:List Int):Option (Int):=if (l0.length:Int)=(l1.length:Int) then (ample_compare.l0 k l0 l1 (wrap64 ((l0.length:Int)-1))) else (some (wrap64 ((l0.length:Int)-(l1.length:Int))))
theorem ample_compare.calls (k : Nat) (A0 : Option Addr) (c0 : Nat) (l0 : List Int) (A1 : Option Addr) (c1 : Nat) (l1 : List Int) (r : Int) (w : World) (hr0 : Kd.C (Kd.int .u32) w A0 l0.length l0) (hc0 : l0.length ≤ c0) (hr1 : Kd.C (Kd.int .u32) w A1 l1.length l1) (hc1 : l1.length ≤ c1) (h : ample_compare.f k l0 l1 = some r) :
  Calls Tryz.prog 230 #[.slice A0 l0.length c0,.slice A1 l1.length c1] w fun e w'=>e = .returned (.int .i64 r)∧Drawn0 w w':=by
 have HR0:=Aside0.mk hr0
 have HC0:=Aside0.mk hc0
 clear hr0 hc0
 have HR1:=Aside0.mk hr1
 have HC1:=Aside0.mk hc1
 clear hr1 hc1
 have H:(if (l0.length:Int)=(l1.length:Int) then (ample_compare.l0 k l0 l1 (wrap64 ((l0.length:Int)-1))) else (some (wrap64 ((l0.length:Int)-(l1.length:Int)))))=some r:=h
 clear h
 by_cases c3:(l0.length:Int)=(l1.length:Int)
 ·rw [if_pos c3] at H
  have c3b0:((l0.length:Int) == (l1.length:Int))=true:=beq_iff_eq.mpr c3
  have c3b1:((l0.length:Int) != (l1.length:Int))=false:=bne_eq_false_iff_eq.mpr c3
  have c3b2:(l0.length == l1.length)=true:=by first|simpa using c3|(simp at c3 ⊢; omega)
  clear c3
  have H':=Aside0.mk H
  clear H
  go_enter Tryz.func230,Tryz.ntmps230
  go_wp2
  repeat (go_quiet (fail); try go_wp2)
  go_loopg [5] k (fun kq v5 w'=>∃ (x5_1:Int),v5 = .int .i64 x5_1∧Aside0 (ample_compare.l0 kq l0 l1 x5_1=some r)∧Aside0 (kq≤k)∧Drawn0 w w')
  case atStart=>exact ⟨(wrap64 ((l0.length:Int)-1)),(by first|rfl|(simp; done)|(simp [*]; done)),H',⟨Nat.le_refl _⟩,by repeat (first|exact Drawn0.refl _|apply Drawn0.step)⟩
  case round =>
   clear H'
   try clear c1
   try clear c2
   try clear p2
   try clear c3
   try clear c3b0
   try clear c3b1
   try clear c3b2
   obtain ⟨x5_1,rfl,HA,HK1,⟨m1,rfl⟩⟩:=hrel
   cases gk with
   | zero=>exact absurd HA.out (by simp [ample_compare.l0])
   | succ k1 =>
    have H:=HA.out
    clear HA
    simp only [ample_compare.l0] at H
    by_cases c4:x5_1≥0
    ·rw [if_pos c4] at H
     have c4b0:decide (0≤x5_1)=true:=decide_eq_true c4
     clear c4
     by_cases c5:0≤x5_1
     ·rw [if_pos c5] at H
      have c5b0:decide (0≤x5_1)=true:=decide_eq_true c5
      clear c5
      by_cases c6:x5_1<(l0.length:Int)
      ·rw [if_pos c6] at H
       have c6b0:decide (x5_1<(l0.length:Int))=true:=decide_eq_true c6
       clear c6
       by_cases c7:x5_1<(l1.length:Int)
       ·rw [if_pos c7] at H
        have c7b0:decide (x5_1<(l1.length:Int))=true:=decide_eq_true c7
        clear c7
        by_cases c8:(rd l0 x5_1)=(rd l1 x5_1)
        ·rw [if_pos c8] at H
         have c8b0:((rd l0 x5_1) == (rd l1 x5_1))=true:=beq_iff_eq.mpr c8
         have c8b1:((rd l0 x5_1) != (rd l1 x5_1))=false:=bne_eq_false_iff_eq.mpr c8
         clear c8
         have H':=Aside0.mk H
         clear H
         have p125:0≤(x5_1:Int):=of_decide_eq_true (by first|(with_reducible assumption)|assumption)
         have q125:x5_1<(l0.length:Int):=of_decide_eq_true (by first|(with_reducible assumption)|assumption)
         obtain ⟨ad125,e125,hx125_0⟩:=Kd.at_int HR0.out x5_1 p125 q125
         cases e125
         replace p125:=eq_true p125
         replace q125:=eq_true q125
         have p126:0≤(x5_1:Int):=of_decide_eq_true (by first|(with_reducible assumption)|assumption)
         have q126:x5_1<(l1.length:Int):=of_decide_eq_true (by first|(with_reducible assumption)|assumption)
         obtain ⟨ad126,e126,hx126_0⟩:=Kd.at_int HR1.out x5_1 p126 q126
         cases e126
         replace p126:=eq_true p126
         replace q126:=eq_true q126
         go_wp2
         repeat (go_quiet (fail); try go_wp2)
         go_roundg k1
         case measure=>have:=HK1.out; omega
         case rel=>exact ⟨(wrap64 (x5_1-1)),(by first|rfl|(simp; done)|(simp [*]; done)),H',⟨by have:=HK1.out; omega⟩,by repeat (first|exact Drawn0.refl _|apply Drawn0.step)⟩
        ·rw [if_neg c8] at H
         have c8b0:((rd l0 x5_1) == (rd l1 x5_1))=false:=beq_eq_false_iff_ne.mpr c8
         have c8b1:((rd l0 x5_1) != (rd l1 x5_1))=true:=bne_iff_ne.mpr c8
         by_cases c9:(rd l0 x5_1)<(rd l1 x5_1)
         ·rw [if_pos c9] at H
          have c9b0:decide ((rd l0 x5_1)<(rd l1 x5_1))=true:=decide_eq_true c9
          clear c9
          obtain rfl:=Option.some.inj H
          have p125:0≤(x5_1:Int):=of_decide_eq_true (by first|(with_reducible assumption)|assumption)
          have q125:x5_1<(l0.length:Int):=of_decide_eq_true (by first|(with_reducible assumption)|assumption)
          obtain ⟨ad125,e125,hx125_0⟩:=Kd.at_int HR0.out x5_1 p125 q125
          cases e125
          replace p125:=eq_true p125
          replace q125:=eq_true q125
          have p126:0≤(x5_1:Int):=of_decide_eq_true (by first|(with_reducible assumption)|assumption)
          have q126:x5_1<(l1.length:Int):=of_decide_eq_true (by first|(with_reducible assumption)|assumption)
          obtain ⟨ad126,e126,hx126_0⟩:=Kd.at_int HR1.out x5_1 p126 q126
          cases e126
          replace p126:=eq_true p126
          replace q126:=eq_true q126
          have p127:0≤(x5_1:Int):=of_decide_eq_true (by first|(with_reducible assumption)|assumption)
          have q127:x5_1<(l0.length:Int):=of_decide_eq_true (by first|(with_reducible assumption)|assumption)
          obtain ⟨ad127,e127,hx127_0⟩:=Kd.at_int HR0.out x5_1 p127 q127
          obtain rfl:ad125=ad127:=(by injection e127)
          replace p127:=eq_true p127
          replace q127:=eq_true q127
          have p128:0≤(x5_1:Int):=of_decide_eq_true (by first|(with_reducible assumption)|assumption)
          have q128:x5_1<(l1.length:Int):=of_decide_eq_true (by first|(with_reducible assumption)|assumption)
          obtain ⟨ad128,e128,hx128_0⟩:=Kd.at_int HR1.out x5_1 p128 q128
          obtain rfl:ad126=ad128:=(by injection e128)
          replace p128:=eq_true p128
          replace q128:=eq_true q128
          go_wp2
          repeat (go_quiet (fail); try go_wp2)
          go_ret
          exact ⟨by first|rfl|(simp; done)|(simp [*]; done),by repeat (first|exact Drawn0.refl _|apply Drawn0.step)⟩
         ·rw [if_neg c9] at H
          have c9b0:decide ((rd l0 x5_1)<(rd l1 x5_1))=false:=decide_eq_false c9
          clear c9
          obtain rfl:=Option.some.inj H
          have p125:0≤(x5_1:Int):=of_decide_eq_true (by first|(with_reducible assumption)|assumption)
          have q125:x5_1<(l0.length:Int):=of_decide_eq_true (by first|(with_reducible assumption)|assumption)
          obtain ⟨ad125,e125,hx125_0⟩:=Kd.at_int HR0.out x5_1 p125 q125
          cases e125
          replace p125:=eq_true p125
          replace q125:=eq_true q125
          have p126:0≤(x5_1:Int):=of_decide_eq_true (by first|(with_reducible assumption)|assumption)
          have q126:x5_1<(l1.length:Int):=of_decide_eq_true (by first|(with_reducible assumption)|assumption)
          obtain ⟨ad126,e126,hx126_0⟩:=Kd.at_int HR1.out x5_1 p126 q126
          cases e126
          replace p126:=eq_true p126
          replace q126:=eq_true q126
          have p127:0≤(x5_1:Int):=of_decide_eq_true (by first|(with_reducible assumption)|assumption)
          have q127:x5_1<(l0.length:Int):=of_decide_eq_true (by first|(with_reducible assumption)|assumption)
          obtain ⟨ad127,e127,hx127_0⟩:=Kd.at_int HR0.out x5_1 p127 q127
          obtain rfl:ad125=ad127:=(by injection e127)
          replace p127:=eq_true p127
          replace q127:=eq_true q127
          have p128:0≤(x5_1:Int):=of_decide_eq_true (by first|(with_reducible assumption)|assumption)
          have q128:x5_1<(l1.length:Int):=of_decide_eq_true (by first|(with_reducible assumption)|assumption)
          obtain ⟨ad128,e128,hx128_0⟩:=Kd.at_int HR1.out x5_1 p128 q128
          obtain rfl:ad126=ad128:=(by injection e128)
          replace p128:=eq_true p128
          replace q128:=eq_true q128
          go_wp2
          repeat (go_quiet (fail); try go_wp2)
          go_ret
          exact ⟨by first|rfl|(simp; done)|(simp [*]; done),by repeat (first|exact Drawn0.refl _|apply Drawn0.step)⟩
       ·rw [if_neg c7] at H
        exact absurd H (by simp)
      ·rw [if_neg c6] at H
       exact absurd H (by simp)
     ·rw [if_neg c5] at H
      exact absurd H (by simp)
    ·rw [if_neg c4] at H
     have c4b0:decide (0≤x5_1)=false:=decide_eq_false c4
     clear c4
     obtain rfl:=Option.some.inj H
     go_wp2
     repeat (go_quiet (fail); try go_wp2)
     go_ret
     exact ⟨by first|rfl|(simp; done)|(simp [*]; done),by repeat (first|exact Drawn0.refl _|apply Drawn0.step)⟩
 ·rw [if_neg c3] at H
  have c3b0:((l0.length:Int) == (l1.length:Int))=false:=beq_eq_false_iff_ne.mpr c3
  have c3b1:((l0.length:Int) != (l1.length:Int))=true:=bne_iff_ne.mpr c3
  have c3b2:(l0.length == l1.length)=false:=by first|simpa using c3|(simp at c3 ⊢; omega)
  obtain rfl:=Option.some.inj H
  go_enter Tryz.func230,Tryz.ntmps230
  go_wp2
  repeat (go_quiet (fail); try go_wp2)
  go_ret
  exact ⟨by first|rfl|(simp; done)|(simp [*]; done),by repeat (first|exact Drawn0.refl _|apply Drawn0.step)⟩
end Go.Proofs.P9
end
section
set_option linter.unusedVariables false
namespace Go.Proofs.P9
open Go.RowKit Go.Proofs.W9.Wa
theorem w64 {x:Int} (h0 : -9223372036854775808≤x) (h1:x<9223372036854775808):wrap64 x=x:=by unfold wrap64; omega
theorem zaw {xs:List Int} {i:Nat} (h:i<xs.length):val (xs.take (i+1))=val (xs.take i)+4294967296^i*rd xs i:=by
 rw [List.take_succ_eq_append_getElem h,zba]
 have e:rd xs (i:Int)=xs[i]:=by
  unfold Go.Proofs.W9.Wa.rd
  rw [Int.toNat_natCast,List.getD_eq_getElem?_getD,List.getElem?_eq_getElem h]; rfl
 rw [e,List.length_take,Nat.min_eq_left (Nat.le_of_lt h)]
 simp [val]
theorem ret_int {k:IntKind} {a b:Int} (h:a=b):Ending.returned (.int k a)=Ending.returned (.int k b):=by rw [h]
theorem zaV (r:Int):(r.sign=1∧0<r)∨(r.sign=0∧r=0)∨(r.sign = -1∧r<0):=by
 rcases Int.lt_trichotomy r 0 with h|h|h
 ·exact .inr (.inr ⟨Int.sign_eq_neg_one_of_neg h,h⟩)
 ·subst h; exact .inr (.inl ⟨rfl,rfl⟩)
 ·exact .inl ⟨Int.sign_eq_one_of_pos h,h⟩
theorem compare_loop (xs ys:List Int) (hx:Wd xs) (hy:Wd ys) (hl:xs.length=ys.length) (hm:xs.length≤9223372036854775807):∀ (i:Nat),i≤xs.length→val xs-val ys=val (xs.take i)-val (ys.take i) →
  ∀ k,i<k→∃ r,ample_compare.l0 k xs ys ((i:Int)-1)=some r∧r.sign=(val xs-val ys).sign ∧ -1≤r∧r≤1:=by
 intro i
 induction i with
 | zero =>
  intro _ he k hk
  obtain ⟨k,rfl⟩:∃ m,k=m+1:=⟨k-1,by omega⟩
  refine ⟨0,?_,by rw [he]; simp [val],by decide,by decide⟩
  simp only [ample_compare.l0]
  rw [if_neg (by omega)]
 | succ i ih =>
  intro hi he k hk
  obtain ⟨k,rfl⟩:∃ m,k=m+1:=⟨k-1,by omega⟩
  have e1:(((i+1:Nat):Int)-1)=(i:Int):=by omega
  rw [e1]
  have hxi:=zaw (xs:=xs) (i:=i) (by omega)
  have hyi:=zaw (xs:=ys) (i:=i) (by omega)
  simp only [ample_compare.l0]
  rw [if_pos (by omega),if_pos (by omega),if_pos (by omega),if_pos (by omega)]
  by_cases heq:rd xs (i:Int)=rd ys (i:Int)
  ·rw [if_pos heq,w64 (by omega) (by omega)]
   exact ih (by omega) (by rw [he,hxi,hyi,heq]; omega) k (by omega)
  ·rw [if_neg heq]
   have bx:=zb5 (hx.take i)
   have by_:=zb5 (hy.take i)
   have nx:=zaA (hx.take i)
   have ny:=zaA (hy.take i)
   rw [List.length_take,Nat.min_eq_left (by omega)] at bx by_
   have hp:(0:Int)<4294967296^i:=Int.pow_pos (by decide)
   by_cases hlt:rd xs (i:Int)<rd ys (i:Int)
   ·rw [if_pos hlt]
    refine ⟨-1,rfl,?_,by decide,by decide⟩
    rw [he,hxi,hyi]
    have:4294967296^i*(rd xs (i:Int)+1)≤4294967296^i*rd ys (i:Int):=Int.mul_le_mul_of_nonneg_left (by omega) (by omega)
    rw [Int.mul_add,Int.mul_one] at this
    exact (Int.sign_eq_neg_one_of_neg (by omega)).symm
   ·rw [if_neg hlt]
    refine ⟨1,rfl,?_,by decide,by decide⟩
    rw [he,hxi,hyi]
    have:4294967296^i*(rd ys (i:Int)+1)≤4294967296^i*rd xs (i:Int):=Int.mul_le_mul_of_nonneg_left (by omega) (by omega)
    rw [Int.mul_add,Int.mul_one] at this
    exact (Int.sign_eq_one_of_pos (by omega)).symm
theorem zcw {xs ys:List Int} (hx:Wd xs) (hy:Wd ys) (ht:ys.getLast? ≠ some 0) (h:xs.length<ys.length):val xs<val ys:=by
 have h1:=zb5 hx
 have h2:=val_pos hy ht (by rintro rfl; simp at h)
 have h3:(4294967296:Int)^xs.length≤4294967296^(ys.length-1):=by
  have:(4294967296:Nat)^xs.length≤4294967296^(ys.length-1):=Nat.pow_le_pow_right (by decide) (by omega)
  have:=Int.ofNat_le.2 this
  rwa [Int.natCast_pow,Int.natCast_pow] at this
 omega
theorem compare_tells (xs ys:List Int) (hx:Wd xs) (hy:Wd ys) (tx:xs.getLast? ≠ some 0) (ty:ys.getLast? ≠ some 0) (hm:xs.length≤9223372036854775807) (hm':ys.length≤9223372036854775807) :
  ∃ k r,ample_compare.f k xs ys=some r∧r.sign=(val xs-val ys).sign ∧ -9223372036854775807≤r∧r≤9223372036854775807:=by
 by_cases hl:xs.length=ys.length
 ·obtain ⟨r,hr,hs,h1,h2⟩:=compare_loop xs ys hx hy hl hm xs.length (Nat.le_refl _) (by rw [List.take_length,List.take_of_length_le (by omega)]) (xs.length+1) (by omega)
  refine ⟨xs.length+1,r,?_,hs,by omega,by omega⟩
  unfold ample_compare.f
  rw [if_pos (by omega),w64 (by omega) (by omega)]; exact hr
 ·refine ⟨0,(xs.length:Int)-ys.length,?_,?_,by omega,by omega⟩
  ·unfold ample_compare.f
   rw [if_neg (by omega),w64 (by omega) (by omega)]
  ·rcases Nat.lt_or_gt_of_ne hl with h|h
   ·have:=zcw hx hy ty h
    rw [Int.sign_eq_neg_one_of_neg (by omega:_<(0:Int)),Int.sign_eq_neg_one_of_neg (by omega:_<(0:Int))]
   ·have:=zcw hy hx tx h
    rw [Int.sign_eq_one_of_pos (by omega:(0:Int)<_),Int.sign_eq_one_of_pos (by omega:(0:Int)<_)]
theorem za1 (A:Option Addr) (c:Nat) (xs:List Int) (A':Option Addr) (c':Nat) (ys:List Int) (w:World) (hx:WAt w A c xs) (hy:WAt w A' c' ys) (dx:Wd xs) (dy:Wd ys) (tx:xs.getLast? ≠ some 0) (ty:ys.getLast? ≠ some 0) :
  Calls Tryz.prog 230 #[.slice A xs.length c,.slice A' ys.length c'] w fun e w'=>∃ r:Int,e = .returned (.int .i64 r)∧r.sign=(val xs-val ys).sign∧(-9223372036854775807≤r∧r≤9223372036854775807)∧Drawn0 w w':=by
 obtain ⟨k,r,hr,hs,h1,h2⟩:=compare_tells xs ys dx dy tx ty hx.lmax hy.lmax
 exact (ample_compare.calls k A c xs A' c' ys r w hx.row hx.le hy.row hy.le hr).mono fun e w' ⟨he,hd⟩=>⟨r,he,hs,⟨h1,h2⟩,hd⟩
structure Cut (ws:List Int) (n:Nat):Prop where
 le:n≤ws.length
 eq:val (ws.take n)=val ws
 top:(ws.take n).getLast? ≠ some 0
theorem zcp (A:Option Addr) (c:Nat) (ws:List Int) (w:World) (hw:WAt w A c ws) (hwd:Wd ws) :
  Calls Tryz.prog 190 #[.slice A ws.length c] w fun e w'=>∃ n:Nat,e = .returned (.slice A n c)∧Cut ws n∧w=w':=by
 have hmax:=hw.lmax
 have hlc:=hw.le
 go_enter Tryz.func190,Tryz.ntmps190
 go_wp2
 go_loop [0] (fun v=>∃ n:Nat,n≤ws.length∧v = .slice A n c∧val (ws.take n)=val ws) (fun v=>match v with|.slice _ n _=>n|_=>0)
 case atStart=>exact ⟨ws.length,Nat.le_refl _,rfl,by rw [List.take_length]⟩
 case round =>
  obtain ⟨n,hn,rfl,hv⟩:=hrel
  have HV:=Lib.hid hv
  clear hv
  rcases Nat.eq_zero_or_pos n with h0|h0
  ·subst h0
   go_wp2
   go_ret
   exact ⟨0,rfl,⟨Nat.zero_le _,HV.out,by simp⟩,rfl⟩
  ·obtain ⟨ad,rfl⟩:=hw.ptr (by omega)
   have hcell:=hw.cell (j:=n-1) (by omega)
   by_cases hz0:ws.getD (n-1) 0=0
   ·have hv2:=zdh h0 hn hz0
    have HV2:=Lib.hid hv2
    clear hv2
    rw [hz0] at hcell
    clear hz0
    go_wp2
    go_round
    case rel=>exact ⟨n-1,by omega,by first|(simp; done)|(simp; omega),HV2.out.symm.trans HV.out⟩
    case measure=>simp; omega
   ·have hb:(ws.getD (n-1) 0 == 0)=false:=beq_eq_false_iff_ne.2 hz0
    have hN:=zdy (neg:=false) hwd hn HV.out (.inr hz0)
    have HN:=Lib.hid hN
    generalize ws.getD (n-1) 0=u at hcell hb
    clear hN hz0
    go_wp2
    go_ret
    exact ⟨n,rfl,⟨hn,HV.out,HN.out.top⟩,rfl⟩
theorem zdB (b o b' o':Nat) (x y:Int) (w:World) (hx:IntAt w b o x) (hy:IntAt w b' o' y) :
  Calls Tryz.prog 185 #[.pointer (some ⟨b,o,none⟩),.pointer (some ⟨b',o',none⟩)] w fun e w'=>e = .returned (.int .i64 (x-y).sign)∧Below w.heap.size w w':=by
 obtain ⟨neg,A,c,ws,h1,h2,h3,h4⟩:=hx.out
 obtain ⟨neg',A',c',ws',k1,k2,k3,k4⟩:=hy.out
 have hm1:=h3.lmax
 have hm2:=k3.lmax
 go_enter Tryz.func185,Tryz.ntmps185
 go_wp2_with fail
 go_region_held3 (fun w'=>w'.cell? ⟨b,o,none⟩=some (.bool neg)∧w'.cell? ⟨b,o+1,none⟩=some (.slice A ws.length c)∧w'.cell? ⟨b',o',none⟩=some (.bool neg')∧w'.cell? ⟨b',o'+1,none⟩=some (.slice A' ws'.length c'))
  (first|go_keep|exact ⟨h1,h2,k1,k2⟩)
  ((first
   | (go_simp; go_at_call 230; refine (za1 A c ws A' c' ws' _ (h3.below (zae _)) (k3.below (zae _)) h4.wd k4.wd h4.top k4.top).mono ?_; rintro e w1 ⟨r,rfl,hr,hrb,⟨⟨nd,rfl⟩⟩⟩)))
 rename_i hHeld
 generalize hq:w.drewN _=w1 at hHeld ⊢
 have hb1:Below w.heap.size w w1:=by subst hq; exact zab (Below.refl _ _) _
 have HB1:=Lib.hid hb1
 have hx1:=hx.below hb1
 have hy1:=hy.below hb1
 clear hq hb1 h1 h2 k1 k2
 obtain ⟨h1,h2,k1,k2⟩:=hHeld
 have ex:=h4.eq
 have ey:=k4.eq
 have EX:=Lib.hid ex
 have EY:=Lib.hid ey
 clear ex ey
 cases neg<;>cases neg'
 ·have key:(x-y).sign=r.sign:=by rw [hr,EX.out,EY.out]; rfl
  have KEY:=Lib.hid key
  clear key
  go_wp2_with fail
  go_quiet (fail)
  go_wp2_with fail
  all_goals
   go_ret
   refine ⟨ret_int ?_,HB1.out.trans ⟨rfl,rfl,rfl,Nat.le_refl _,fun _ _=>rfl⟩⟩
   rw [KEY.out]
   rcases zaV r with ⟨hs,hr0⟩|⟨hs,hr0⟩|⟨hs,hr0⟩<;>rw [hs]<;>omega
 ·have key:(x-y).sign=(x.sign-y.sign).sign:=by
   have:=h4.neg_iff
   have:=k4.neg_iff
   simp at *
   rcases zaV x with ⟨hs,hr0⟩|⟨hs,hr0⟩|⟨hs,hr0⟩<;>rcases zaV y with ⟨ht,ht0⟩|⟨ht,ht0⟩|⟨ht,ht0⟩<;>rw [hs,ht]<;>first
    | (exfalso; omega)
    | exact Int.sign_eq_one_of_pos (by omega)
    | exact Int.sign_eq_neg_one_of_neg (by omega)
  have KEY:=Lib.hid key
  have hsx : -1≤x.sign∧x.sign≤1:=by rcases zaV x with ⟨hs,_⟩|⟨hs,_⟩|⟨hs,_⟩<;>rw [hs]<;>decide
  have hsy : -1≤y.sign∧y.sign≤1:=by rcases zaV y with ⟨hs,_⟩|⟨hs,_⟩|⟨hs,_⟩<;>rw [hs]<;>decide
  obtain ⟨sx1,sx2⟩:=hsx
  obtain ⟨sy1,sy2⟩:=hsy
  clear key
  go_wp2_with fail
  go_quiet (fail)
  go_wp2_with fail
  refine (zaP b o x _ (hx1.below (zab (Below.refl _ _) _))).mono ?_
  rintro e w2 ⟨rfl,rfl⟩
  go_wp2_with fail
  refine (zaP b' o' y _ (hy1.below (zab (Below.refl _ _) _))).mono ?_
  rintro e w2 ⟨rfl,rfl⟩
  go_wp2_with fail
  all_goals
   go_ret
   refine ⟨ret_int ?_,HB1.out.trans ⟨rfl,rfl,rfl,Nat.le_refl _,fun _ _=>rfl⟩⟩
   rw [KEY.out]
   rcases zaV (x.sign-y.sign) with ⟨hs,hr0⟩|⟨hs,hr0⟩|⟨hs,hr0⟩<;>rw [hs]<;>omega
 ·have key:(x-y).sign=(x.sign-y.sign).sign:=by
   have:=h4.neg_iff
   have:=k4.neg_iff
   simp at *
   rcases zaV x with ⟨hs,hr0⟩|⟨hs,hr0⟩|⟨hs,hr0⟩<;>rcases zaV y with ⟨ht,ht0⟩|⟨ht,ht0⟩|⟨ht,ht0⟩<;>rw [hs,ht]<;>first
    | (exfalso; omega)
    | exact Int.sign_eq_one_of_pos (by omega)
    | exact Int.sign_eq_neg_one_of_neg (by omega)
  have KEY:=Lib.hid key
  have hsx : -1≤x.sign∧x.sign≤1:=by rcases zaV x with ⟨hs,_⟩|⟨hs,_⟩|⟨hs,_⟩<;>rw [hs]<;>decide
  have hsy : -1≤y.sign∧y.sign≤1:=by rcases zaV y with ⟨hs,_⟩|⟨hs,_⟩|⟨hs,_⟩<;>rw [hs]<;>decide
  obtain ⟨sx1,sx2⟩:=hsx
  obtain ⟨sy1,sy2⟩:=hsy
  clear key
  go_wp2_with fail
  go_quiet (fail)
  go_wp2_with fail
  refine (zaP b o x _ (hx1.below (zab (Below.refl _ _) _))).mono ?_
  rintro e w2 ⟨rfl,rfl⟩
  go_wp2_with fail
  refine (zaP b' o' y _ (hy1.below (zab (Below.refl _ _) _))).mono ?_
  rintro e w2 ⟨rfl,rfl⟩
  go_wp2_with fail
  all_goals
   go_ret
   refine ⟨ret_int ?_,HB1.out.trans ⟨rfl,rfl,rfl,Nat.le_refl _,fun _ _=>rfl⟩⟩
   rw [KEY.out]
   rcases zaV (x.sign-y.sign) with ⟨hs,hr0⟩|⟨hs,hr0⟩|⟨hs,hr0⟩<;>rw [hs]<;>omega
 ·have key:(x-y).sign=(-r).sign:=by rw [Int.sign_neg,hr,EX.out,EY.out,←Int.sign_neg]; simp only [if_true]; congr 1; omega
  have KEY:=Lib.hid key
  clear key
  go_wp2_with fail
  go_quiet (fail)
  go_wp2_with fail
  all_goals
   go_ret
   refine ⟨ret_int ?_,HB1.out.trans ⟨rfl,rfl,rfl,Nat.le_refl _,fun _ _=>rfl⟩⟩
   rw [KEY.out]
   rcases zaV (-r) with ⟨hs,hr0⟩|⟨hs,hr0⟩|⟨hs,hr0⟩<;>rw [hs]<;>omega
end Go.Proofs.P9
end
section
set_option linter.unusedVariables false
namespace Go.Proofs.P9
open Go.RowKit Go.Proofs.W9.Wa
def OwnW (w:World) (base:Nat) (v:Value) (zs:List Int):Prop:=w.ownsRow base 171 1 v zs.length (nums .u32 zs)
theorem OwnW.wat {w:World} {base:Nat} {v:Value} {zs:List Int} (h:OwnW w base v zs):∃ A c,v = .slice A zs.length c∧WAt w A c zs:=WAt.of_own h
theorem zbh {zs:List Int} {i:Nat} (h:i<zs.length) (v:Int):val ((zs.set i v).take (i+1))=val (zs.take i)+4294967296^i*v:=by
  rw [List.take_succ_eq_append_getElem (by simpa using h),zba,List.take_set_of_le (Nat.le_refl i),List.length_take,Nat.min_eq_left (Nat.le_of_lt h)]
  simp [val]
theorem zbX {zs:List Int} (h:Wd zs) (i:Nat) {v:Int} (h0:0≤v) (h1:v<4294967296):Wd (zs.set i v):=fun u hu=>by
  rcases List.mem_or_eq_of_mem_set hu with hu|rfl
  · exact h u hu
  · exact ⟨h0,h1⟩
theorem zch (n:Nat):Wd (List.replicate n 0):=fun u hu=>by
  rw [List.eq_of_mem_replicate hu]; decide
theorem zaX (xs:List Int) (i:Nat):xs.getD i 0=rd xs (i:Int):=by unfold Go.Proofs.W9.Wa.rd; rw [Int.toNat_natCast]
theorem sum_step {P zt xt yt x y c s:Int} (h:zt+P*c=xt+yt) (hs:s=x+y+c):zt+P*(s%4294967296)+P*4294967296*(s/4294967296)=xt+P*x+(yt+P*y):=by
  have e:s%4294967296+4294967296*(s/4294967296)=s:=Int.emod_add_mul_ediv s 4294967296
  have:P*(s%4294967296)+P*4294967296*(s/4294967296)=P*s:=by rw [←e]; generalize s%4294967296=q; generalize s/4294967296=r; rw [Int.mul_assoc,←Int.mul_add,Int.add_mul_emod_self_left,Int.add_mul_ediv_left _ _ (by decide)]; grind
  rw [Int.add_assoc,this,hs]
  grind
theorem zdk (A : Option Addr) (cx : Nat) (xs : List Int) (A' : Option Addr) (cy : Nat) (ys : List Int) (w : World) (hx : WAt w A cx xs) (hy : WAt w A' cy ys) (dx : Wd xs) (dy : Wd ys) (lx : xs.length ≤ 35184372088832) (ly : ys.length ≤ 35184372088832) :
    Calls Tryz.prog 233 #[.slice A xs.length cx,.slice A' ys.length cy] w fun e w'=>∃ (B:Option Addr) (c:Nat) (zs:List Int),e = .returned (.slice B zs.length c)∧WAt w' B c zs∧Wd zs∧val zs=val xs+val ys∧zs.length≤xs.length+ys.length+1∧Below w.heap.size w w':=by
  have hl1:=hx.le
  have hl2:=hy.le
  by_cases hlt:xs.length<ys.length
  · clear hl1 hl2
    have hmk:=zb8 (P:=Tryz.prog) 103 171 .u32 4 Tryz.underlying103 zdb (by decide) (ys.length+1) (by omega)
    have hown:=zcW w w.heap.size 171 .u32 (ys.length+1) (Nat.le_refl _) (by omega)
    have HOWN:=Lib.hid hown
    clear hown
    have ec:(((ys.length+1:Nat)):Int)=(ys.length:Int)+1:=by omega
    rw [ec] at hmk
    clear ec
    go_enter Tryz.func233,Tryz.ntmps233
    go_wp2
    clear hmk
    go_loopw [6,22] (fun vc vi wr=>∃ (i:Nat) (c:Int) (zs:List Int),i≤ys.length∧0≤c∧c≤1∧vc = .int .u64 c∧vi = .int .i64 i∧zs.length=ys.length+1∧Wd zs∧OwnW wr w.heap.size (.slice (some ⟨w.heap.size,0,none⟩) (ys.length+1) (ys.length+1)) zs∧Below w.heap.size w wr ∧
        val (zs.take i)+4294967296^i*c=val (ys.take i)+val (xs.take i)) (fun _ vi _=>ys.length-(intOf vi).toNat)
    case atStart=>exact ⟨0,0,List.replicate (ys.length+1) 0,by omega,by omega,by omega,rfl,rfl,by simp,zch _,by unfold OwnW; rw [List.length_replicate]; exact HOWN.out,zaa (Below.refl _ _) _,by simp [val]⟩
    case round =>
      obtain ⟨i,c,zs,hi,hc0,hc1,rfl,rfl,hzl,hzd,hO,hB,hv⟩:=hrel
      have HV:=Lib.hid hv
      have HO:=Lib.hid hO
      have HZL:=Lib.hid hzl
      clear hv hO hzl
      have HOA:=Lib.hid (show wr.ownsRow w.heap.size 171 1 (.slice (some ⟨w.heap.size,0,none⟩) (ys.length+1) (ys.length+1)) (ys.length+1) (nums .u32 zs) by have:=HO.out; unfold OwnW at this; rw [HZL.out] at this; exact this)
      by_cases hil:i<ys.length
      · obtain ⟨ad,rfl⟩:=hy.ptr (by omega)
        have hcx:=(hy.below hB).cell (j:=i) hil
        have hbx:=dy.rd (i:Int)
        rw [zaX] at hcx
        obtain ⟨hs1,hs2⟩:=zb6 HOA.out (i:Int) (by omega) (by omega)
        have hst:=zbc HOA.out (i:Int)
        rw [Int.toNat_natCast] at hs1 hs2 hst
        have HST:=Lib.hid hst
        clear hst
        have hvx:=zaw (xs:=ys) hil
        have HVX:=Lib.hid hvx
        clear hvx
        generalize rd ys (i:Int)=x at hcx hbx HVX
        obtain ⟨hbx0,hbx1⟩:=hbx
        have fin:∀ s:Int,0≤s→s<2*4294967296→∀ y:Int,s=x+y+c→val (xs.take (i+1))=val (xs.take i)+4294967296^i*y →
            Wd (zs.set i (s%4294967296))∧OwnW (wr.setCell ⟨w.heap.size,i,none⟩ (.int .u32 (s%4294967296))) w.heap.size (.slice (some ⟨w.heap.size,0,none⟩) (ys.length+1) (ys.length+1)) (zs.set i (s%4294967296))∧Below w.heap.size w (wr.setCell ⟨w.heap.size,i,none⟩ (.int .u32 (s%4294967296))) ∧
            val ((zs.set i (s%4294967296)).take (i+1))+4294967296^(i+1)*(s/4294967296)=val (ys.take (i+1))+val (xs.take (i+1)):=fun s hs0 hs1 y hy hyt=>by
          refine ⟨zbX hzd _ (by omega) (by omega),?_,hB.setCell (Nat.le_refl _) _,?_⟩
          · unfold OwnW
            rw [List.length_set,HZL.out]
            exact (HST.out _).1
          · rw [zbh (by rw [HZL.out]; omega),HVX.out,hyt,Int.pow_succ]
            exact sum_step HV.out hy
        have FIN:=Lib.hid fin
        clear fin
        by_cases hiy:i<xs.length
        · obtain ⟨ad',rfl⟩:=hx.ptr (by omega)
          have hcy:=(hx.below hB).cell (j:=i) hiy
          have hby:=dx.rd (i:Int)
          rw [zaX] at hcy
          have hvy:=zaw (xs:=xs) hiy
          have HVY:=Lib.hid hvy
          clear hvy
          generalize rd xs (i:Int)=y at hcy hby HVY
          obtain ⟨hby0,hby1⟩:=hby
          go_wp2
          go_roundw
          case rel =>
            obtain ⟨f1,f2,f3,f4⟩:=FIN.out (c+x+y) (by omega) (by omega) y (by omega) HVY.out
            exact ⟨i+1,(c+x+y)/4294967296,_,by omega,by omega,by omega,rfl,by go_num,by rw [List.length_set,HZL.out],f1,f2,f3,f4⟩
          case measure=>simp [intOf]; omega
        · have hvy:val (xs.take (i+1))=val (xs.take i)+4294967296^i*0:=by rw [List.take_of_length_le (by omega),List.take_of_length_le (by omega)]; omega
          have HVY:=Lib.hid hvy
          clear hvy
          go_wp2
          go_roundw
          case rel =>
            obtain ⟨f1,f2,f3,f4⟩:=FIN.out (c+x) (by omega) (by omega) 0 (by omega) HVY.out
            exact ⟨i+1,(c+x)/4294967296,_,by omega,by omega,by omega,rfl,by go_num,by rw [List.length_set,HZL.out],f1,f2,f3,f4⟩
          case measure=>simp [intOf]; omega
      · obtain rfl:i=ys.length:=by omega
        obtain ⟨hs1,hs2⟩:=zb6 HOA.out (ys.length:Int) (by omega) (by omega)
        have hst:=zbc HOA.out (ys.length:Int) c
        rw [Int.toNat_natCast] at hs1 hs2 hst
        have HST:=Lib.hid hst
        clear hst
        go_wp2
        go_ret
        have hw2:OwnW (wr.setCell ⟨w.heap.size,ys.length,none⟩ (.int .u32 c)) w.heap.size (.slice (some ⟨w.heap.size,0,none⟩) (ys.length+1) (ys.length+1)) (zs.set ys.length c):=by
          unfold OwnW
          rw [List.length_set,HZL.out]
          exact HST.out.1
        obtain ⟨A2,c2,he,hw3⟩:=hw2.wat
        injection he with e1 e2 e3
        subst e1; subst e3
        have hlen:(zs.set ys.length c).length=ys.length+1:=by rw [List.length_set,HZL.out]
        refine ⟨_,_,zs.set ys.length c,by rw [hlen]; rfl,hw3,zbX hzd _ (by omega) (by omega),?_,by rw [hlen]; omega,hB.setCell (Nat.le_refl _) _⟩
        have hv1:=zbh (zs:=zs) (i:=ys.length) (by rw [HZL.out]; omega) c
        rw [List.take_of_length_le (by omega)] at hv1
        have hv2:=HV.out
        rw [List.take_length,List.take_of_length_le (by omega:xs.length≤_)] at hv2
        rw [hv1,hv2]; omega
  · clear hl1 hl2
    have hmk:=zb8 (P:=Tryz.prog) 103 171 .u32 4 Tryz.underlying103 zdb (by decide) (xs.length+1) (by omega)
    have hown:=zcW w w.heap.size 171 .u32 (xs.length+1) (Nat.le_refl _) (by omega)
    have HOWN:=Lib.hid hown
    clear hown
    have ec:(((xs.length+1:Nat)):Int)=(xs.length:Int)+1:=by omega
    rw [ec] at hmk
    clear ec
    go_enter Tryz.func233,Tryz.ntmps233
    go_wp2
    clear hmk
    go_loopw [6,22] (fun vc vi wr=>∃ (i:Nat) (c:Int) (zs:List Int),i≤xs.length∧0≤c∧c≤1∧vc = .int .u64 c∧vi = .int .i64 i∧zs.length=xs.length+1∧Wd zs∧OwnW wr w.heap.size (.slice (some ⟨w.heap.size,0,none⟩) (xs.length+1) (xs.length+1)) zs∧Below w.heap.size w wr ∧
        val (zs.take i)+4294967296^i*c=val (xs.take i)+val (ys.take i)) (fun _ vi _=>xs.length-(intOf vi).toNat)
    case atStart=>exact ⟨0,0,List.replicate (xs.length+1) 0,by omega,by omega,by omega,rfl,rfl,by simp,zch _,by unfold OwnW; rw [List.length_replicate]; exact HOWN.out,zaa (Below.refl _ _) _,by simp [val]⟩
    case round =>
      obtain ⟨i,c,zs,hi,hc0,hc1,rfl,rfl,hzl,hzd,hO,hB,hv⟩:=hrel
      have HV:=Lib.hid hv
      have HO:=Lib.hid hO
      have HZL:=Lib.hid hzl
      clear hv hO hzl
      have HOA:=Lib.hid (show wr.ownsRow w.heap.size 171 1 (.slice (some ⟨w.heap.size,0,none⟩) (xs.length+1) (xs.length+1)) (xs.length+1) (nums .u32 zs) by have:=HO.out; unfold OwnW at this; rw [HZL.out] at this; exact this)
      by_cases hil:i<xs.length
      · obtain ⟨ad,rfl⟩:=hx.ptr (by omega)
        have hcx:=(hx.below hB).cell (j:=i) hil
        have hbx:=dx.rd (i:Int)
        rw [zaX] at hcx
        obtain ⟨hs1,hs2⟩:=zb6 HOA.out (i:Int) (by omega) (by omega)
        have hst:=zbc HOA.out (i:Int)
        rw [Int.toNat_natCast] at hs1 hs2 hst
        have HST:=Lib.hid hst
        clear hst
        have hvx:=zaw (xs:=xs) hil
        have HVX:=Lib.hid hvx
        clear hvx
        generalize rd xs (i:Int)=x at hcx hbx HVX
        obtain ⟨hbx0,hbx1⟩:=hbx
        have fin:∀ s:Int,0≤s→s<2*4294967296→∀ y:Int,s=x+y+c→val (ys.take (i+1))=val (ys.take i)+4294967296^i*y →
            Wd (zs.set i (s%4294967296))∧OwnW (wr.setCell ⟨w.heap.size,i,none⟩ (.int .u32 (s%4294967296))) w.heap.size (.slice (some ⟨w.heap.size,0,none⟩) (xs.length+1) (xs.length+1)) (zs.set i (s%4294967296))∧Below w.heap.size w (wr.setCell ⟨w.heap.size,i,none⟩ (.int .u32 (s%4294967296))) ∧
            val ((zs.set i (s%4294967296)).take (i+1))+4294967296^(i+1)*(s/4294967296)=val (xs.take (i+1))+val (ys.take (i+1)):=fun s hs0 hs1 y hy hyt=>by
          refine ⟨zbX hzd _ (by omega) (by omega),?_,hB.setCell (Nat.le_refl _) _,?_⟩
          · unfold OwnW
            rw [List.length_set,HZL.out]
            exact (HST.out _).1
          · rw [zbh (by rw [HZL.out]; omega),HVX.out,hyt,Int.pow_succ]
            exact sum_step HV.out hy
        have FIN:=Lib.hid fin
        clear fin
        by_cases hiy:i<ys.length
        · obtain ⟨ad',rfl⟩:=hy.ptr (by omega)
          have hcy:=(hy.below hB).cell (j:=i) hiy
          have hby:=dy.rd (i:Int)
          rw [zaX] at hcy
          have hvy:=zaw (xs:=ys) hiy
          have HVY:=Lib.hid hvy
          clear hvy
          generalize rd ys (i:Int)=y at hcy hby HVY
          obtain ⟨hby0,hby1⟩:=hby
          go_wp2
          go_roundw
          case rel =>
            obtain ⟨f1,f2,f3,f4⟩:=FIN.out (c+x+y) (by omega) (by omega) y (by omega) HVY.out
            exact ⟨i+1,(c+x+y)/4294967296,_,by omega,by omega,by omega,rfl,by go_num,by rw [List.length_set,HZL.out],f1,f2,f3,f4⟩
          case measure=>simp [intOf]; omega
        · have hvy:val (ys.take (i+1))=val (ys.take i)+4294967296^i*0:=by rw [List.take_of_length_le (by omega),List.take_of_length_le (by omega)]; omega
          have HVY:=Lib.hid hvy
          clear hvy
          go_wp2
          go_roundw
          case rel =>
            obtain ⟨f1,f2,f3,f4⟩:=FIN.out (c+x) (by omega) (by omega) 0 (by omega) HVY.out
            exact ⟨i+1,(c+x)/4294967296,_,by omega,by omega,by omega,rfl,by go_num,by rw [List.length_set,HZL.out],f1,f2,f3,f4⟩
          case measure=>simp [intOf]; omega
      · obtain rfl:i=xs.length:=by omega
        obtain ⟨hs1,hs2⟩:=zb6 HOA.out (xs.length:Int) (by omega) (by omega)
        have hst:=zbc HOA.out (xs.length:Int) c
        rw [Int.toNat_natCast] at hs1 hs2 hst
        have HST:=Lib.hid hst
        clear hst
        go_wp2
        go_ret
        have hw2:OwnW (wr.setCell ⟨w.heap.size,xs.length,none⟩ (.int .u32 c)) w.heap.size (.slice (some ⟨w.heap.size,0,none⟩) (xs.length+1) (xs.length+1)) (zs.set xs.length c):=by
          unfold OwnW
          rw [List.length_set,HZL.out]
          exact HST.out.1
        obtain ⟨A2,c2,he,hw3⟩:=hw2.wat
        injection he with e1 e2 e3
        subst e1; subst e3
        have hlen:(zs.set xs.length c).length=xs.length+1:=by rw [List.length_set,HZL.out]
        refine ⟨_,_,zs.set xs.length c,by rw [hlen]; rfl,hw3,zbX hzd _ (by omega) (by omega),?_,by rw [hlen]; omega,hB.setCell (Nat.le_refl _) _⟩
        have hv1:=zbh (zs:=zs) (i:=xs.length) (by rw [HZL.out]; omega) c
        rw [List.take_of_length_le (by omega)] at hv1
        have hv2:=HV.out
        rw [List.take_length,List.take_of_length_le (by omega:ys.length≤_)] at hv2
        rw [hv1,hv2]
end Go.Proofs.P9
end
section
set_option linter.unusedVariables false
namespace Go.Proofs.P9
open Go.RowKit Go.Proofs.W9.Wa
def bw (x y b:Int):Int:=if x<y+b then 1 else 0
theorem bw_range (x y b:Int):0≤bw x y b∧bw x y b≤1:=by unfold bw; split<;>decide
theorem bw_eq (x y b:Int) (hx:0≤x∧x<4294967296) (hy:0≤y∧y<4294967296) (hb:0≤b∧b≤1):(x-y-b)%4294967296=x-y-b+4294967296*bw x y b:=by
  unfold bw; split<;>omega
theorem top_bit (n:Nat) (h:n<4294967296):n >>> 31=0∨n >>> 31=1:=by
  rw [Nat.shiftRight_eq_div_pow]; omega
theorem sub32_nat (X Y b D:Nat) (hx:X<4294967296) (hy:Y<4294967296) (hb:b≤1) (hd:D=(X+8589934592-Y-b)%4294967296) :
    (((4294967295 ^^^ X) &&& Y) ||| ((4294967295 ^^^ (X ^^^ Y)) &&& D))/2147483648=if X<Y+b then 1 else 0:=by
  have e:∀ n:Nat,n/2147483648=n >>> 31:=fun n=>by rw [Nat.shiftRight_eq_div_pow]
  have hD:D<4294967296:=by omega
  rw [e,Nat.shiftRight_or_distrib,Nat.shiftRight_and_distrib,Nat.shiftRight_and_distrib,Nat.shiftRight_xor_distrib,Nat.shiftRight_xor_distrib,Nat.shiftRight_xor_distrib]
  have h1:(4294967295:Nat) >>> 31=1:=by decide
  rw [h1]
  have ex:X >>> 31=X/2147483648:=(e X).symm
  have ey:Y >>> 31=Y/2147483648:=(e Y).symm
  have ed:D >>> 31=D/2147483648:=(e D).symm
  rcases top_bit X hx with kx|kx<;>rcases top_bit Y hy with ky|ky<;>rcases top_bit D hD with kd|kd<;>rw [kx,ky,kd]<;>(first|rw [if_pos (by omega)]; done|rw [if_neg (by omega)]; done|(rw [if_pos (by omega)]; decide)|(rw [if_neg (by omega)]; decide)|(exfalso; omega))
theorem sub32_int (x y b:Int) (hx:0≤x∧x<4294967296) (hy:0≤y∧y<4294967296) (hb:0≤b∧b≤1) :
    bits BinOp.or IntKind.u32 (bits BinOp.and IntKind.u32 (bits BinOp.xor IntKind.u32 4294967295 x) y) (bits BinOp.and IntKind.u32 (bits BinOp.xor IntKind.u32 4294967295 (bits BinOp.xor IntKind.u32 x y)) ((x-y-b)%4294967296))/2147483648=bw x y b:=by
  obtain ⟨X,rfl⟩:=Int.eq_ofNat_of_zero_le hx.1
  obtain ⟨Y,rfl⟩:=Int.eq_ofNat_of_zero_le hy.1
  obtain ⟨c,rfl⟩:=Int.eq_ofNat_of_zero_le hb.1
  obtain ⟨D,hD⟩:=Int.eq_ofNat_of_zero_le (show 0≤((X:Int)-Y-c)%4294967296 by omega)
  have hx1:X<4294967296:=by omega
  have hy1:Y<4294967296:=by omega
  have hd1:D<4294967296:=by omega
  rw [hD]
  have a1:(4294967295:Int)=((4294967295:Nat):Int):=rfl
  rw [a1,u32_xor_nat _ _ (by decide) hx1,u32_xor_nat _ _ hx1 hy1]
  have b1:4294967295 ^^^ X<4294967296:=Nat.xor_lt_two_pow (n:=32) (by decide) hx1
  have b2:X ^^^ Y<4294967296:=Nat.xor_lt_two_pow (n:=32) hx1 hy1
  rw [u32_and_nat _ _ b1 hy1,u32_xor_nat _ _ (by decide) b2]
  have b3:4294967295 ^^^ (X ^^^ Y)<4294967296:=Nat.xor_lt_two_pow (n:=32) (by decide) b2
  rw [u32_and_nat _ _ b3 hd1]
  have b4:(4294967295 ^^^ X) &&& Y<4294967296:=Nat.and_lt_two_pow (n:=32) _ hy1
  have b5:(4294967295 ^^^ (X ^^^ Y)) &&& D<4294967296:=Nat.and_lt_two_pow (n:=32) _ hd1
  rw [u32_or_nat _ _ b4 b5]
  have:=sub32_nat X Y c D hx1 hy1 (by omega) (by omega)
  have h2:((((4294967295 ^^^ X) &&& Y ||| (4294967295 ^^^ (X ^^^ Y)) &&& D)/2147483648:Nat):Int)=((if X<Y+c then 1 else 0:Nat):Int):=by rw [this]
  unfold bw
  rw [Int.natCast_ediv] at h2
  rw [show ((2147483648:Nat):Int)=2147483648 from rfl] at h2
  rw [h2]
  by_cases h:X<Y+c
  · rw [if_pos h,if_pos (by omega)]; rfl
  · rw [if_neg h,if_neg (by omega)]; rfl
theorem sub32_calls (x y b:Int) (w:World) (hx:0≤x∧x<4294967296) (hy:0≤y∧y<4294967296) (hb:0≤b∧b≤1) :
    Calls Tryz.prog 247 #[.int .u32 x,.int .u32 y,.int .u32 b] w fun e w'=>e = .returned (.tuple #[.int .u32 ((x-y-b)%4294967296),.int .u32 (bw x y b)])∧w=w':=by
  have hs:=sub32_int x y b hx hy hb
  have HS:=Lib.hid hs
  clear hs
  obtain ⟨hx0,hx1⟩:=hx
  obtain ⟨hy0,hy1⟩:=hy
  obtain ⟨hb0,hb1⟩:=hb
  go_enter Tryz.func247,Tryz.ntmps247
  go_wp2
  all_goals first
    | (rename_i hc; exact absurd hc (by decide))
    | (go_ret2
       exact ⟨by have:=HS.out; rw [←this]; rfl,rfl⟩)
theorem less_step {P zt xt yt x y b:Int} (h:zt=xt-yt+P*b) (hx:0≤x∧x<4294967296) (hy:0≤y∧y<4294967296) (hb:0≤b∧b≤1):zt+P*((x-y-b)%4294967296)=xt+P*x-(yt+P*y)+P*4294967296*bw x y b:=by
  rw [bw_eq x y b hx hy hb,h]
  grind
theorem zca (A : Option Addr) (cx : Nat) (xs : List Int) (A' : Option Addr) (cy : Nat) (ys : List Int) (w : World) (hx : WAt w A cx xs) (hy : WAt w A' cy ys) (dx : Wd xs) (dy : Wd ys) (lx : xs.length ≤ 35184372088832) (hle : val ys ≤ val xs) (hly : ys.length ≤ xs.length) :
    Calls Tryz.prog 234 #[.slice A xs.length cx,.slice A' ys.length cy] w fun e w'=>∃ (B:Option Addr) (c:Nat) (zs:List Int),e = .returned (.slice B zs.length c)∧WAt w' B c zs∧Wd zs∧val zs=val xs-val ys∧zs.length=xs.length∧Below w.heap.size w w':=by
    have hmk:=zb8 (P:=Tryz.prog) 103 171 .u32 4 Tryz.underlying103 zdb (by decide) xs.length (by omega)
    have hown:=zcW w w.heap.size 171 .u32 xs.length (Nat.le_refl _) (by omega)
    have HOWN:=Lib.hid hown
    clear hown
    go_enter Tryz.func234,Tryz.ntmps234
    go_wp2
    clear hmk
    go_loopw [6,15] (fun vc vi wr=>∃ (i:Nat) (c:Int) (zs:List Int),i≤xs.length∧0≤c∧c≤1∧vc = .int .u32 c∧vi = .int .i64 i∧zs.length=xs.length∧Wd zs∧OwnW wr w.heap.size (.slice (some ⟨w.heap.size,0,none⟩) xs.length xs.length) zs∧Below w.heap.size w wr ∧
        val (zs.take i)=val (xs.take i)-val (ys.take i)+4294967296^i*c) (fun _ vi _=>xs.length-(intOf vi).toNat)
    case atStart=>exact ⟨0,0,List.replicate xs.length 0,by omega,by omega,by omega,rfl,rfl,by simp,zch _,by unfold OwnW; rw [List.length_replicate]; exact HOWN.out,zaa (Below.refl _ _) _,by simp [val]⟩
    case round =>
      obtain ⟨i,c,zs,hi,hc0,hc1,rfl,rfl,hzl,hzd,hO,hB,hv⟩:=hrel
      have HV:=Lib.hid hv
      have HO:=Lib.hid hO
      have HZL:=Lib.hid hzl
      clear hv hO hzl
      have HOA:=Lib.hid (show wr.ownsRow w.heap.size 171 1 (.slice (some ⟨w.heap.size,0,none⟩) xs.length xs.length) xs.length (nums .u32 zs) by have:=HO.out; unfold OwnW at this; rw [HZL.out] at this; exact this)
      by_cases hil:i<xs.length
      · obtain ⟨ad,rfl⟩:=hx.ptr (by omega)
        have hcx:=(hx.below hB).cell (j:=i) hil
        have hbx:=dx.rd (i:Int)
        rw [zaX] at hcx
        obtain ⟨hs1,hs2⟩:=zb6 HOA.out (i:Int) (by omega) (by omega)
        have hst:=zbc HOA.out (i:Int)
        rw [Int.toNat_natCast] at hs1 hs2 hst
        have HST:=Lib.hid hst
        clear hst
        have hvx:=zaw (xs:=xs) hil
        have HVX:=Lib.hid hvx
        clear hvx
        generalize rd xs (i:Int)=x at hcx hbx HVX
        have hbx':=hbx
        obtain ⟨hbx0,hbx1⟩:=hbx
        have fin:∀ y:Int,0≤y∧y<4294967296→val (ys.take (i+1))=val (ys.take i)+4294967296^i*y →
            Wd (zs.set i ((x-y-c)%4294967296))∧OwnW (wr.setCell ⟨w.heap.size,i,none⟩ (.int .u32 ((x-y-c)%4294967296))) w.heap.size (.slice (some ⟨w.heap.size,0,none⟩) xs.length xs.length) (zs.set i ((x-y-c)%4294967296))∧Below w.heap.size w (wr.setCell ⟨w.heap.size,i,none⟩ (.int .u32 ((x-y-c)%4294967296))) ∧
            val ((zs.set i ((x-y-c)%4294967296)).take (i+1))=val (xs.take (i+1))-val (ys.take (i+1))+4294967296^(i+1)*bw x y c:=fun y hy0 hyt=>by
          refine ⟨zbX hzd _ (by omega) (by omega),?_,hB.setCell (Nat.le_refl _) _,?_⟩
          · unfold OwnW
            rw [List.length_set,HZL.out]
            exact (HST.out _).1
          · rw [zbh (by rw [HZL.out]; omega),HVX.out,hyt,Int.pow_succ]
            exact less_step HV.out hbx' hy0 ⟨hc0,hc1⟩
        have FIN:=Lib.hid fin
        clear fin
        by_cases hiy:i<ys.length
        · obtain ⟨ad',rfl⟩:=hy.ptr (by omega)
          have hcy:=(hy.below hB).cell (j:=i) hiy
          have hby:=dy.rd (i:Int)
          rw [zaX] at hcy
          have hvy:=zaw (xs:=ys) hiy
          have HVY:=Lib.hid hvy
          clear hvy
          generalize rd ys (i:Int)=y at hcy hby HVY
          go_wp2_with (go_at_call 247; refine (sub32_calls x y c _ hbx' hby ⟨hc0,hc1⟩).mono ?_; rintro e w2 ⟨rfl,rfl⟩)
          go_roundw
          case rel =>
            obtain ⟨f1,f2,f3,f4⟩:=FIN.out y hby HVY.out
            exact ⟨i+1,bw x y c,_,by omega,(bw_range x y c).1,(bw_range x y c).2,rfl,by go_num,by rw [List.length_set,HZL.out],f1,f2,f3,f4⟩
          case measure=>simp [intOf]; omega
        · have hvy:val (ys.take (i+1))=val (ys.take i)+4294967296^i*0:=by rw [List.take_of_length_le (by omega),List.take_of_length_le (by omega)]; omega
          have HVY:=Lib.hid hvy
          clear hvy
          go_wp2_with (go_at_call 247; refine (sub32_calls x 0 c _ hbx' (by decide) ⟨hc0,hc1⟩).mono ?_; rintro e w2 ⟨rfl,rfl⟩)
          go_roundw
          case rel =>
            obtain ⟨f1,f2,f3,f4⟩:=FIN.out 0 (by decide) HVY.out
            rw [Int.sub_zero] at f1 f2 f3 f4
            exact ⟨i+1,bw x 0 c,_,by omega,(bw_range x 0 c).1,(bw_range x 0 c).2,rfl,by go_num,by rw [List.length_set,HZL.out],f1,f2,f3,f4⟩
          case measure=>simp [intOf]; omega
      · obtain rfl:i=xs.length:=by omega
        go_wp2
        go_ret
        obtain ⟨A2,c2,he,hw3⟩:=HO.out.wat
        injection he with e1 e2 e3
        subst e1; subst e3
        refine ⟨_,_,zs,by rw [HZL.out]; rfl,hw3,hzd,?_,HZL.out,hB⟩
        have hv2:=HV.out
        rw [List.take_length,List.take_of_length_le (by omega:ys.length≤_),List.take_of_length_le (by rw [HZL.out]; omega)] at hv2
        have h3:=zb5 hzd
        have h4:=zaA hzd
        rw [HZL.out] at h3
        have h5:c=0:=by
          rcases (show c=0∨c=1 by omega) with h|h
          · exact h
          · subst h; omega
        subst h5
        omega
end Go.Proofs.P9
end
