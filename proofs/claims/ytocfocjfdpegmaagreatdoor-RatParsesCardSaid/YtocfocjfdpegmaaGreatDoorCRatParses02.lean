/- Texts under the proof, joined by a program (prune.py): WShare, WN, WAt, WEqStruct, WRepsOne, WInv, WGuard, WMore, P0, P19, HCompare, HSum, HLess. -/
import Derived.Test.YtocfocjfdpegmaaGreatDoorCRatParses01
import Derived.Test.YtocfocjfdpegmaaGreatDoorCRatParses00
import Derived.Laws.StructEq
import Derived.Test.YtocfocjfdpegmaaGreatDoorProg
import Derived.Below
import Derived.Deep.Draws
import Derived.Deep.AppendLies
import Derived.Maps.AppendAt
import Derived.OwnWalk
import Derived.Laws.BytesArg
import Derived.Laws.MakeOwn
import Derived.Laws.OwnMore
import Derived.Deep.OwnRows
import Derived.Tactics
import Derived.Lib.ConvBytes
import Derived.Laws.Slices
import Derived.WalkKit
import Derived.KernelRfl
import Derived.RowKit3
import Derived.Deep.LoopGhost
import Derived.Deep.QuietTactic
import Derived.BigQuiet
import Derived.WideLaws
import Derived.Deep.DeepCutAuto
import Derived.Deep.CutBlock
import Derived.Deep.RegionHeld3
import Derived.Laws.Rows
import Derived.Lib.AppendStr
import Derived.ArgAppend
import Derived.Laws.IdiomCopy
import Derived.OrdersHeld
import Derived.Laws.BitsLemmas
import Derived.RowKit
set_option linter.unusedVariables false
set_option linter.unusedSimpArgs false
set_option exponentiation.threshold 20001
set_option maxHeartbeats 8000000
set_option maxRecDepth 100000
section
namespace Go.Proofs.ZW.Wa
open Go.RowKit
def Foot (P:World→Prop) (W:World) (ok:Nat→Prop):Prop:=∀ W':World,(∀ k,ok k→k<W.heap.size→W'.heap[k]? = W.heap[k]?)→P W'
theorem heap_lt {W W1:World} {k:Nat} (h:W1.heap[k]? = W.heap[k]?) (hlt:k<W.heap.size):k<W1.heap.size:=by
 rw [Array.getElem?_eq_getElem hlt] at h
 exact (Array.getElem?_eq_some_iff.1 h).1
namespace Foot
variable {P Q:World→Prop} {W W1:World} {ok ok':Nat→Prop}
theorem now (h:Foot P W ok):P W:=h W (fun _ _ _=>rfl)
theorem mono (h:Foot P W ok) (hok:∀ k,ok k→ok' k):Foot P W ok':=fun W' hW=>h W' (fun k hk hlt=>hW k (hok k hk) hlt)
theorem bound (h:Foot P W ok):Foot P W (fun k=>ok k∧k<W.heap.size):=fun W' hW=>h W' (fun k hk hlt=>hW k ⟨hk,hlt⟩ hlt)
theorem step (h:Foot P W ok) (hm:∀ k,ok k→k<W.heap.size→W1.heap[k]? = W.heap[k]?):Foot P W1 ok:=fun W' hW=>h W' (fun k hk hlt=>(hW k hk (heap_lt (hm k hk hlt) hlt)).trans (hm k hk hlt))
theorem imp (h:Foot P W ok) (hi:∀ W',P W'→Q W'):Foot Q W ok:=fun W' hW=>hi W' (h W' hW)
theorem old (h:Foot P W ok) (hb:Below W.heap.size W W1):Foot P W1 (fun k=>ok k∧k<W.heap.size):=(h.bound).step (fun k _ hlt=>hb.block k hlt)
end Foot
namespace Kd
def F {α:Type} (d:Kd α) (W:World) (ok:Nat→Prop) (A:Option Addr) (n:Nat) (xs:List α):Prop:=Foot (fun W=>d.C W A n xs) W ok
def FK {α:Type} (d:Kd α) (W:World) (ok:Nat→Prop) (x:α) (c:List Value):Prop:=Foot (fun W=>d.K W x c) W ok
section
variable {α β:Type} {d:Kd α} {e base n n' cc g N:Nat} {ok ok' okp S:Nat→Prop} {w w0 w1 W W1:World} {A A':Option Addr} {u v v1:Value} {xs:List α} {xs':List β} {d':Kd β} {x:α} {c:List Value}
theorem F_now (h:F d W ok A n xs):d.C W A n xs:=Foot.now h
theorem F_mono (h:F d W ok A n xs) (hok:∀ k,ok k→ok' k):F d W ok' A n xs:=Foot.mono h hok
theorem F_step (h:F d W ok A n xs) (hm:∀ k,ok k→k<W.heap.size→W1.heap[k]? = W.heap[k]?):F d W1 ok A n xs:=Foot.step h hm
theorem F_imp (h:F d W ok A n xs) (hi:∀ W',d.C W' A n xs→d'.C W' A' n' xs'):F d' W ok A' n' xs':=Foot.imp h hi
theorem F_below (h:F d W ok A n xs) (hb:Below W.heap.size W W1):F d W1 ok A n xs:=F_step h (fun k _ hlt=>hb.block k hlt)
theorem F_alloc (h:F d W ok A n xs) (o:Obj):F d (W.alloc o) ok A n xs:=F_below h (zaa (Below.refl _ _) o)
theorem F_drew (h:F d W ok A n xs):F d W.drew ok A n xs:=F_below h (zat (Below.refl _ _))
theorem F_drewN (h:F d W ok A n xs) (m:Nat):F d (W.drewN m) ok A n xs:=F_below h (zab (Below.refl _ _) m)
theorem C_F (hd:Heap d) (h:d.C w A n xs):F d w (fun k=>k<w.heap.size) A n xs:=fun _ hW=>hd.C (fun k hlt=>hW k hlt hlt) h
theorem R_F (h:d.R e W base ok (.slice A n cc) xs):F d W ok A n xs:=fun W' hW=>by
 have h2:=R_reads' (R_step h hW)
 rw [h2.1]
 exact h2.2.2
end
end Kd
end Go.Proofs.ZW.Wa
end
section
namespace Go.Proofs.ZW.Wa
open Go.RowKit
namespace Kd
section
variable {α:Type} {d:Kd α} {e base n cc g:Nat} {ok ok' okp S:Nat→Prop} {w w1 W W1:World} {A:Option Addr} {u v v1:Value} {xs:List α} {x:α} {c:List Value}
def N {α:Type} (d:Kd α) (e:Nat) (w:World) (base:Nat) (ok:Nat→Prop) (v:Value) (xs:List α):Prop:=
 (∀ k,v.ownBlock=some k→ok k)∧∃ rows:List (List Value),rows.length=xs.length∧(raw d.sz).R e w base (fun k=>some k=v.ownBlock) v rows∧∀ (j:Nat) (x:α) (c:List Value),xs[j]? = some x→rows[j]? = some c→FK d w (fun k=>ok k∧some k≠v.ownBlock) x c
end
end Kd
end Go.Proofs.ZW.Wa
end
section
namespace Go.Proofs.ZW.Wa
open Go.RowKit
section
variable {w w' u:World} {m B g:Nat} {o:Obj} {row:Option Nat} {S:Nat→Prop} {a:Addr} {v:Value}
theorem zcw (hq:w.drewN m=w') (h:Below B u w):Below B u w':=by subst hq; exact zab h m
end
namespace Kd
section
variable {α:Type} {d:Kd α} {e base n m:Nat} {ok:Nat→Prop} {w w':World} {v:Value} {A:Option Addr} {xs:List α}
theorem R_at (hq:w.drewN m=w') (h:d.R e w base ok v xs):d.R e w' base ok v xs:=by subst hq; exact R_drewN h m
end
end Kd
end Go.Proofs.ZW.Wa
end
section
namespace Go.Proofs.ZW.Wa
open Go.RowKit
section
variable {P:Program} {d:Nat} {xs ys:Array Value} {f:Field} {fs:List Field} {a b:Value} {r s:Bool} {w:World}
theorem eqf_last (hn:(f.name == "_")=false) (ha:(part f.type xs f.offset).run P w = .ok a w) (hb:(part f.type ys f.offset).run P w = .ok b w) (he:(Op.equalIn d f.type a b).run P w = .ok r w):(Op.eqFields d xs ys [f]).run P w = .ok r w:=by
 have hn':f.name ≠ "_":=by simpa using hn
 simp only [Op.eqFields,if_pos hn',Sem.run_bind,ha,hb,he,Result.andThen_ok]
 cases r<;>simp
theorem eqf_cons (hn:(f.name == "_")=false) (ha:(part f.type xs f.offset).run P w = .ok a w) (hb:(part f.type ys f.offset).run P w = .ok b w) (he:(Op.equalIn d f.type a b).run P w = .ok r w) (hr:(Op.eqFields d xs ys fs).run P w = .ok s w):(Op.eqFields d xs ys (f :: fs)).run P w = .ok (r && s) w:=by
 have hn':f.name ≠ "_":=by simpa using hn
 rw [Op.eqFields]
 simp only [if_pos hn',Sem.run_bind,ha,hb,he,Result.andThen_ok]
 cases r
 ·simp
 ·simpa using hr
theorem eqA_of {t:TypeId} {fs:Array Field} (hu:P.underlying t=some (.struct fs)) (hp:P.stoodInHeld t=false) (h:(Op.eqFields d xs ys fs.toList).run P w = .ok r w):(Op.equalIn (d+1) t (.agg xs) (.agg ys)).run P w = .ok r w:=by
 have hf:P.fieldsOf t=fs:=by simp [Program.fieldsOf,hu]
 rw [run_equalIn_struct (P:=P) w d t xs ys (by rw [hf]; exact hu) hp,hf]
 exact h
end
end Go.Proofs.ZW.Wa
end
section
namespace Go.Proofs.ZW.Wa
theorem Reps.one {α:Type} {R:α→List Value→Prop} {ps:List α} {cs:List Value} {p:α} {v:Value} (hp:R p [v]) (h:Reps R 1 ps cs):Reps R 1 (p :: ps) (v :: cs):=by
 refine ⟨by simp [h.1],fun j q hq => ?_⟩
 cases j with
 | zero =>
  simp only [List.getElem?_cons_zero,Option.some.injEq] at hq
  subst hq
  simpa using hp
 | succ j =>
  simp only [List.getElem?_cons_succ] at hq
  have h1:=h.2 j q hq
  simpa [Nat.mul_one] using h1
theorem Reps.front {α:Type} {R:α→List Value→Prop} {size:Nat} {ps:List α} {cs c all:List Value} {p:α} (hp:R p c) (hc:c.length=size) (h:Reps R size ps cs) (ha:c++cs=all):Reps R size (p :: ps) all:=by
 subst ha
 refine ⟨by rw [List.length_append,hc,h.1,List.length_cons,Nat.succ_mul,Nat.add_comm],fun j q hq => ?_⟩
 cases j with
 | zero =>
  simp only [List.getElem?_cons_zero,Option.some.injEq] at hq
  subst hq
  rw [Nat.zero_mul,List.drop_zero,List.take_append_of_le_length (by omega),List.take_of_length_le (by omega)]
  exact hp
 | succ j =>
  simp only [List.getElem?_cons_succ] at hq
  have h1:=h.2 j q hq
  rw [Nat.succ_mul,List.drop_append,List.drop_of_length_le (by rw [hc]; exact Nat.le_add_left _ _),List.nil_append,hc,Nat.add_sub_cancel]
  exact h1
theorem Reps.c2 {α:Type} {R:α→List Value→Prop} {ps:List α} {cs:List Value} {p:α} {va vb:Value} (hp:R p [va,vb]) (h:Reps R 2 ps cs):Reps R 2 (p :: ps) (va :: vb :: cs):=Reps.front hp rfl h rfl
theorem Reps.c3 {α:Type} {R:α→List Value→Prop} {ps:List α} {cs:List Value} {p:α} {va vb vc:Value} (hp:R p [va,vb,vc]) (h:Reps R 3 ps cs):Reps R 3 (p :: ps) (va :: vb :: vc :: cs):=Reps.front hp rfl h rfl
theorem Reps.c4 {α:Type} {R:α→List Value→Prop} {ps:List α} {cs:List Value} {p:α} {va vb vc vd:Value} (hp:R p [va,vb,vc,vd]) (h:Reps R 4 ps cs):Reps R 4 (p :: ps) (va :: vb :: vc :: vd :: cs):=Reps.front hp rfl h rfl
theorem Reps.c5 {α:Type} {R:α→List Value→Prop} {ps:List α} {cs:List Value} {p:α} {va vb vc vd ve:Value} (hp:R p [va,vb,vc,vd,ve]) (h:Reps R 5 ps cs):Reps R 5 (p :: ps) (va :: vb :: vc :: vd :: ve :: cs):=Reps.front hp rfl h rfl
theorem Reps.c6 {α:Type} {R:α→List Value→Prop} {ps:List α} {cs:List Value} {p:α} {va vb vc vd ve vf:Value} (hp:R p [va,vb,vc,vd,ve,vf]) (h:Reps R 6 ps cs):Reps R 6 (p :: ps) (va :: vb :: vc :: vd :: ve :: vf :: cs):=Reps.front hp rfl h rfl
theorem Reps.c7 {α:Type} {R:α→List Value→Prop} {ps:List α} {cs:List Value} {p:α} {va vb vc vd ve vf vg:Value} (hp:R p [va,vb,vc,vd,ve,vf,vg]) (h:Reps R 7 ps cs):Reps R 7 (p :: ps) (va :: vb :: vc :: vd :: ve :: vf :: vg :: cs):=Reps.front hp rfl h rfl
theorem Reps.c8 {α:Type} {R:α→List Value→Prop} {ps:List α} {cs:List Value} {p:α} {va vb vc vd ve vf vg vh:Value} (hp:R p [va,vb,vc,vd,ve,vf,vg,vh]) (h:Reps R 8 ps cs):Reps R 8 (p :: ps) (va :: vb :: vc :: vd :: ve :: vf :: vg :: vh :: cs):=Reps.front hp rfl h rfl
theorem Reps.c9 {α:Type} {R:α→List Value→Prop} {ps:List α} {cs:List Value} {p:α} {va vb vc vd ve vf vg vh vi:Value} (hp:R p [va,vb,vc,vd,ve,vf,vg,vh,vi]) (h:Reps R 9 ps cs):Reps R 9 (p :: ps) (va :: vb :: vc :: vd :: ve :: vf :: vg :: vh :: vi :: cs):=Reps.front hp rfl h rfl
theorem Reps.c10 {α:Type} {R:α→List Value→Prop} {ps:List α} {cs:List Value} {p:α} {va vb vc vd ve vf vg vh vi vj:Value} (hp:R p [va,vb,vc,vd,ve,vf,vg,vh,vi,vj]) (h:Reps R 10 ps cs):Reps R 10 (p :: ps) (va :: vb :: vc :: vd :: ve :: vf :: vg :: vh :: vi :: vj :: cs):=Reps.front hp rfl h rfl
end Go.Proofs.ZW.Wa
end
section
namespace Go.Proofs.ZW.Wb
def up (b:Nat→Bool) (i:Nat):Nat→Bool:=fun j=>if j=i then true else b j
section
variable {P:Program} {ops:Array Oper} {Q:Exit→Act→World→Prop} {md:Region.Mode} {T:Bool×List (List Nat×List Nat)} {B:List Nat} {O:List Nat} {b:Nat→Bool} {i j n:Nat}
end
end Go.Proofs.ZW.Wb
end
section
namespace Go.Proofs.ZW.Wa
open Go.RowKit
section
variable {P:Program} {ops:Array Oper} {rest:List Oper} {o:Oper} {a:Act} {Q:Exit→Act→World→Prop} {W:World}
theorem gate_guard (hw:Region.wanted o (yielded ops a.tmps)=true) (h:wpList P ops Q ({ o with guard:=none } :: rest) a W):wpList P ops Q (o :: rest) a W:=by
 have h1:Region.wanted { o with guard:=none } (yielded ops a.tmps)=true:=rfl
 unfold wpList at h ⊢
 rw [if_pos h1] at h
 rw [if_pos hw]
 exact h
end
end Go.Proofs.ZW.Wa
end
section
namespace Go.Proofs.ZW.Wc
open Go.RowKit Go.Proofs.ZW.Wa
namespace Kd
open Go.Proofs.ZW.Wa.Kd
end Kd
namespace Kd
open Go.Proofs.ZW.Wa.Kd
section
variable {α:Type} {d:Kd α} {e base g N:Nat} {ok:Nat→Prop} {W w1:World} {u v:Value} {xs:List α}
end
end Kd
theorem zaH (k k':IntKind) (x y:Int):Builtin.max2 (.int k x) (.int k' y)=pure (.int k (if x<y then y else x)):=by simp only [Builtin.max2,gt_iff_lt]
theorem zaF (k k':IntKind) (x y:Int):Builtin.min2 (.int k x) (.int k' y)=pure (.int k (if y<x then y else x)):=by simp only [Builtin.min2]
theorem zaW (ats:Array TypeId) (ty:TypeId) (a b:Value):Builtin.max_ ats ty #[a,b]=(Builtin.max2 a b >>= fun s=>pure s):=by simp only [Builtin.max_,List.foldlM_cons,List.foldlM_nil]
theorem zaV (ats:Array TypeId) (ty:TypeId) (a b:Value):Builtin.min_ ats ty #[a,b]=(Builtin.min2 a b >>= fun s=>pure s):=by simp only [Builtin.min_,List.foldlM_cons,List.foldlM_nil]
theorem zaA (ats:Array TypeId) (ty:TypeId) (a b c:Value):Builtin.max_ ats ty #[a,b,c]=(Builtin.max2 a b >>= fun s=>Builtin.max2 s c >>= fun s=>pure s):=by simp only [Builtin.max_,List.foldlM_cons,List.foldlM_nil]
theorem zaz (ats:Array TypeId) (ty:TypeId) (a b c:Value):Builtin.min_ ats ty #[a,b,c]=(Builtin.min2 a b >>= fun s=>Builtin.min2 s c >>= fun s=>pure s):=by simp only [Builtin.min_,List.foldlM_cons,List.foldlM_nil]
theorem zaG (ats:Array TypeId) (ty:TypeId) (a b c d:Value):Builtin.max_ ats ty #[a,b,c,d]=(Builtin.max2 a b >>= fun s=>Builtin.max2 s c >>= fun s=>Builtin.max2 s d >>= fun s=>pure s):=by simp only [Builtin.max_,List.foldlM_cons,List.foldlM_nil]
theorem zaE (ats:Array TypeId) (ty:TypeId) (a b c d:Value):Builtin.min_ ats ty #[a,b,c,d]=(Builtin.min2 a b >>= fun s=>Builtin.min2 s c >>= fun s=>Builtin.min2 s d >>= fun s=>pure s):=by simp only [Builtin.min_,List.foldlM_cons,List.foldlM_nil]
end Go.Proofs.ZW.Wc
namespace Go.Proofs.ZW.Wa
open Go.RowKit
section
variable {P:Program} {ops:Array Oper} {rest:List Oper} {o:Oper} {a:Act} {Q:Exit→Act→World→Prop} {W:World}
theorem zaD {f:FuncId} {as0:Array Operand} {ts:Array TypeId} (_ho:o.op = .call { callee:=.value (.func f),args:=as0,argTypes:=ts }) (h:wpList P ops Q (o :: rest) a W):wpList P ops Q (o :: rest) a W:=h
end
def shl (k:IntKind) (x y:Int):Int:=k.wrap (x*2^min y.toNat k.bits)
def shr (k:IntKind) (x y:Int):Int:=x/2^min y.toNat k.bits
theorem shl_small {k:IntKind} {x y j:Int} (h:shl k x y=j) (hy:y≤k.bits):k.wrap (x*2^y.toNat)=j:=by rw [←h]; unfold shl; rw [Nat.min_eq_left (by omega)]
theorem shr_small {k:IntKind} {x y j:Int} (h:shr k x y=j) (hy:y≤k.bits):x/2^y.toNat=j:=by rw [←h]; unfold shr; rw [Nat.min_eq_left (by omega)]
theorem zbL (w:World) (n:Nat):w.drewN n=w.drewN n:=rfl
namespace Kd
section
variable {α:Type} {d:Kd α} {e base:Nat} {ok:Nat→Prop} {W w1:World} {v:Value} {xs:List α}
end
section
variable {α:Type} {d:Kd α} {e base g n cap:Nat} {ok oki okp:Nat→Prop} {W:World} {xs:List α} {i:Int} {c:List Value}
end
section
variable {α:Type} {d:Kd α} {e base b b' g N:Nat} {ok ok1:Nat→Prop} {W W2 w1:World} {u v:Value} {xs ys:List α} {S:Nat→Prop}
end
end Kd
end Go.Proofs.ZW.Wa
namespace Go.Proofs.ZW.Wa
open Go.RowKit
namespace Kd
def V {α:Type} (d:Kd α) (_e:Nat) (W:World) (_base:Nat) (ok:Nat→Prop) (v:Value) (xs:List α):Prop:=∃ A c,v = .slice A xs.length c∧xs.length≤c∧F d W ok A xs.length xs
section
variable {α β:Type} {d:Kd α} {e base base' n m c g N' lo hi:Nat} {ok ok' S:Nat→Prop} {w W w1:World} {A:Option Addr} {ad:Addr} {u v v1:Value} {xs:List α}
theorem V_map (h:V d e W base ok v xs) (hF:∀ A,F d W ok A xs.length xs→F d w1 ok' A xs.length xs):V d e w1 base' ok' v xs:=by
 obtain ⟨A,c,hv,hl,hf⟩:=h
 exact ⟨A,c,hv,hl,hF A hf⟩
theorem V_mk (hl:xs.length≤c) (hf:F d W ok A xs.length xs):V d e W base ok (.slice A xs.length c) xs:=⟨A,c,rfl,hl,hf⟩
theorem V_slice (h:V d e W base ok v xs):∃ A c,v = .slice A xs.length c:=by
 obtain ⟨A,c,hv,_⟩:=h
 exact ⟨A,c,hv⟩
theorem V_at (h:V d e W base ok (.slice A n c) xs):n=xs.length∧n≤c∧F d W ok A xs.length xs:=by
 obtain ⟨A',c',hv,hl,hf⟩:=h
 injection hv with ha hn hc
 subst ha; subst hc
 exact ⟨hn,by rw [hn]; exact hl,hf⟩
theorem V_reads' (h:V d e W base ok (.slice A n c) xs):n=xs.length∧n≤c∧d.C W A xs.length xs:=⟨(V_at h).1,(V_at h).2.1,F_now (V_at h).2.2⟩
theorem R_V (h:d.R e W base ok v xs):V d e W base' ok v xs:=by
 obtain ⟨A,c,rfl⟩:=R_slice h
 exact ⟨A,c,rfl,(R_reads' h).2.1,R_F h⟩
theorem V_mono (h:V d e W base ok v xs) (hok:∀ k,ok k→ok' k):V d e W base ok' v xs:=V_map h (fun _ hf=>F_mono hf hok)
theorem V_lower (h:V d e W base ok v xs) (_:base'≤base):V d e W base' ok v xs:=h
theorem V_below (h:V d e W base ok v xs) (hb:Below W.heap.size W w1):V d e w1 base ok v xs:=V_map h (fun _ hf=>F_below hf hb)
theorem V_alloc (h:V d e W base ok v xs) (o:Obj):V d e (W.alloc o) base ok v xs:=V_map h (fun _ hf=>F_alloc hf o)
theorem V_drew (h:V d e W base ok v xs):V d e W.drew base ok v xs:=V_map h (fun _ hf=>F_drew hf)
theorem V_drewN (h:V d e W base ok v xs) (m:Nat):V d e (W.drewN m) base ok v xs:=V_map h (fun _ hf=>F_drewN hf m)
theorem F_take (h:F d W ok A xs.length xs) (hm:m≤xs.length):F d W ok A (xs.take m).length (xs.take m):=F_imp h (fun _ hC=>C_take hC hm)
theorem R_newM {M:Nat→Prop} (h:d.R e w1 W.heap.size ok v xs) (hle:w.heap.size≤W.heap.size) (hM:∀ k,w.heap.size≤k→M k):d.R e w1 W.heap.size (fun k=>M k∧ok k) v xs:=R_mono (R_bound h) (fun k hk=>⟨hM k (Nat.le_trans hle hk.2.1),hk.1⟩)
end
end Kd
end Go.Proofs.ZW.Wa
end
section
namespace Go.Proofs.ZP
open Go.RowKit Go.Proofs.ZW.Wa Go.Proofs.ZW.Wb Go.Proofs.ZW.Wc
attribute [local go_sem] zaH zaF zaW zaV zaA zaz zaG zaE
def errW:Option Int→Value
 | none => .nilIface
 | some c => .iface 241 (.int .i64 c)
theorem zak:errW none = .nilIface:=rfl
theorem zaj (c:Int):errW (some c) = .iface 241 (.int .i64 c):=rfl
theorem info3:(Tryz.prog.info? 3).map (fun i=>(i.zero,i.size,i.bytes))=some (some (.int .i64 0),1,8):=by kernel_rfl
theorem info144:(Tryz.prog.info? 144).map (fun i=>(i.zero,i.size,i.bytes))=some (some (.int .u32 0),1,4):=by kernel_rfl
def ample_compare.l0:Nat→List Int→List Int→Int→Option (Int)
 | 0,_,_,_=>none
 | k+1,x0,x1,x5=>if x5≥0 then (if 0≤x5 then (if x5<(x0.length:Int) then (if x5<(x1.length:Int) then (if (rd x0 x5)=(rd x1 x5) then (ample_compare.l0 k x0 x1 (wrap64 (x5-1))) else (if (rd x0 x5)<(rd x1 x5) then (some (-1)) else (some 1))) else (none)) else (none)) else (none)) else (some 0)
def ample_compare.f (k:Nat) (l0:List Int) (l1:List Int):Option (Int):=if (l0.length:Int)=(l1.length:Int) then (ample_compare.l0 k l0 l1 (wrap64 ((l0.length:Int)-1))) else (some (wrap64 ((l0.length:Int)-(l1.length:Int))))
theorem ample_compare.calls (k : Nat) (A0 : Option Addr) (c0 : Nat) (l0 : List Int) (A1 : Option Addr) (c1 : Nat) (l1 : List Int) (r : Int) (w : World) (hr0 : Kd.C (Kd.int .u32) w A0 l0.length l0) (hc0 : l0.length ≤ c0) (hr1 : Kd.C (Kd.int .u32) w A1 l1.length l1) (hc1 : l1.length ≤ c1) (h : ample_compare.f k l0 l1 = some r) :
  Calls Tryz.prog 203 #[.slice A0 l0.length c0,.slice A1 l1.length c1] w fun e w'=>e = .returned (.int .i64 r)∧Drawn0 w w':=by
 have HR0:=Aside0.mk hr0
 have HC0:=Aside0.mk hc0
 clear hr0 hc0
 have HR1:=Aside0.mk hr1
 have HC1:=Aside0.mk hc1
 clear hr1 hc1
 have H:(if (l0.length:Int)=(l1.length:Int) then (ample_compare.l0 k l0 l1 (wrap64 ((l0.length:Int)-1))) else (some (wrap64 ((l0.length:Int)-(l1.length:Int)))))=some r:=h
 clear h
 by_cases c3:(l0.length:Int)=(l1.length:Int)
 ·rw [if_pos c3] at H
  have c3b0:((l0.length:Int) == (l1.length:Int))=true:=beq_iff_eq.mpr c3
  have c3b1:((l0.length:Int) != (l1.length:Int))=false:=bne_eq_false_iff_eq.mpr c3
  have c3b2:(l0.length == l1.length)=true:=by first|simpa using c3|(simp at c3 ⊢; omega)
  clear c3
  have H':=Aside0.mk H
  clear H
  go_enter Tryz.func203,Tryz.ntmps203
  go_wp2
  repeat (go_quiet (fail); try go_wp2)
  go_loopg [5] k (fun kq v5 w'=>∃ (x5_1:Int),v5 = .int .i64 x5_1∧Aside0 (ample_compare.l0 kq l0 l1 x5_1=some r)∧Aside0 (kq≤k)∧Drawn0 w w')
  case atStart=>exact ⟨(wrap64 ((l0.length:Int)-1)),(by first|rfl|(simp; done)|(simp [*]; done)),H',⟨Nat.le_refl _⟩,by repeat (first|exact Drawn0.refl _|apply Drawn0.step)⟩
  case round =>
   clear H'
   try clear c1
   try clear c2
   try clear p2
   try clear c3
   try clear c3b0
   try clear c3b1
   try clear c3b2
   obtain ⟨x5_1,rfl,HA,HK1,⟨m1,rfl⟩⟩:=hrel
   cases gk with
   | zero=>exact absurd HA.out (by simp [ample_compare.l0])
   | succ k1 =>
    have H:=HA.out
    clear HA
    simp only [ample_compare.l0] at H
    by_cases c4:x5_1≥0
    ·rw [if_pos c4] at H
     have c4b0:decide (0≤x5_1)=true:=decide_eq_true c4
     clear c4
     by_cases c5:0≤x5_1
     ·rw [if_pos c5] at H
      have c5b0:decide (0≤x5_1)=true:=decide_eq_true c5
      clear c5
      by_cases c6:x5_1<(l0.length:Int)
      ·rw [if_pos c6] at H
       have c6b0:decide (x5_1<(l0.length:Int))=true:=decide_eq_true c6
       clear c6
       by_cases c7:x5_1<(l1.length:Int)
       ·rw [if_pos c7] at H
        have c7b0:decide (x5_1<(l1.length:Int))=true:=decide_eq_true c7
        clear c7
        by_cases c8:(rd l0 x5_1)=(rd l1 x5_1)
        ·rw [if_pos c8] at H
         have c8b0:((rd l0 x5_1) == (rd l1 x5_1))=true:=beq_iff_eq.mpr c8
         have c8b1:((rd l0 x5_1) != (rd l1 x5_1))=false:=bne_eq_false_iff_eq.mpr c8
         clear c8
         have H':=Aside0.mk H
         clear H
         have p125:0≤(x5_1:Int):=of_decide_eq_true (by first|(with_reducible assumption)|assumption)
         have q125:x5_1<(l0.length:Int):=of_decide_eq_true (by first|(with_reducible assumption)|assumption)
         obtain ⟨ad125,e125,hx125_0⟩:=Kd.at_int HR0.out x5_1 p125 q125
         cases e125
         replace p125:=eq_true p125
         replace q125:=eq_true q125
         have p126:0≤(x5_1:Int):=of_decide_eq_true (by first|(with_reducible assumption)|assumption)
         have q126:x5_1<(l1.length:Int):=of_decide_eq_true (by first|(with_reducible assumption)|assumption)
         obtain ⟨ad126,e126,hx126_0⟩:=Kd.at_int HR1.out x5_1 p126 q126
         cases e126
         replace p126:=eq_true p126
         replace q126:=eq_true q126
         go_wp2
         repeat (go_quiet (fail); try go_wp2)
         go_roundg k1
         case measure=>have:=HK1.out; omega
         case rel=>exact ⟨(wrap64 (x5_1-1)),(by first|rfl|(simp; done)|(simp [*]; done)),H',⟨by have:=HK1.out; omega⟩,by repeat (first|exact Drawn0.refl _|apply Drawn0.step)⟩
        ·rw [if_neg c8] at H
         have c8b0:((rd l0 x5_1) == (rd l1 x5_1))=false:=beq_eq_false_iff_ne.mpr c8
         have c8b1:((rd l0 x5_1) != (rd l1 x5_1))=true:=bne_iff_ne.mpr c8
         by_cases c9:(rd l0 x5_1)<(rd l1 x5_1)
         ·rw [if_pos c9] at H
          have c9b0:decide ((rd l0 x5_1)<(rd l1 x5_1))=true:=decide_eq_true c9
          clear c9
          obtain rfl:=Option.some.inj H
          have p125:0≤(x5_1:Int):=of_decide_eq_true (by first|(with_reducible assumption)|assumption)
          have q125:x5_1<(l0.length:Int):=of_decide_eq_true (by first|(with_reducible assumption)|assumption)
          obtain ⟨ad125,e125,hx125_0⟩:=Kd.at_int HR0.out x5_1 p125 q125
          cases e125
          replace p125:=eq_true p125
          replace q125:=eq_true q125
          have p126:0≤(x5_1:Int):=of_decide_eq_true (by first|(with_reducible assumption)|assumption)
          have q126:x5_1<(l1.length:Int):=of_decide_eq_true (by first|(with_reducible assumption)|assumption)
          obtain ⟨ad126,e126,hx126_0⟩:=Kd.at_int HR1.out x5_1 p126 q126
          cases e126
          replace p126:=eq_true p126
          replace q126:=eq_true q126
          have p127:0≤(x5_1:Int):=of_decide_eq_true (by first|(with_reducible assumption)|assumption)
          have q127:x5_1<(l0.length:Int):=of_decide_eq_true (by first|(with_reducible assumption)|assumption)
          obtain ⟨ad127,e127,hx127_0⟩:=Kd.at_int HR0.out x5_1 p127 q127
          obtain rfl:ad125=ad127:=(by injection e127)
          replace p127:=eq_true p127
          replace q127:=eq_true q127
          have p128:0≤(x5_1:Int):=of_decide_eq_true (by first|(with_reducible assumption)|assumption)
          have q128:x5_1<(l1.length:Int):=of_decide_eq_true (by first|(with_reducible assumption)|assumption)
          obtain ⟨ad128,e128,hx128_0⟩:=Kd.at_int HR1.out x5_1 p128 q128
          obtain rfl:ad126=ad128:=(by injection e128)
          replace p128:=eq_true p128
          replace q128:=eq_true q128
          go_wp2
          repeat (go_quiet (fail); try go_wp2)
          go_ret
          exact ⟨by first|rfl|(simp; done)|(simp [*]; done),by repeat (first|exact Drawn0.refl _|apply Drawn0.step)⟩
         ·rw [if_neg c9] at H
          have c9b0:decide ((rd l0 x5_1)<(rd l1 x5_1))=false:=decide_eq_false c9
          clear c9
          obtain rfl:=Option.some.inj H
          have p125:0≤(x5_1:Int):=of_decide_eq_true (by first|(with_reducible assumption)|assumption)
          have q125:x5_1<(l0.length:Int):=of_decide_eq_true (by first|(with_reducible assumption)|assumption)
          obtain ⟨ad125,e125,hx125_0⟩:=Kd.at_int HR0.out x5_1 p125 q125
          cases e125
          replace p125:=eq_true p125
          replace q125:=eq_true q125
          have p126:0≤(x5_1:Int):=of_decide_eq_true (by first|(with_reducible assumption)|assumption)
          have q126:x5_1<(l1.length:Int):=of_decide_eq_true (by first|(with_reducible assumption)|assumption)
          obtain ⟨ad126,e126,hx126_0⟩:=Kd.at_int HR1.out x5_1 p126 q126
          cases e126
          replace p126:=eq_true p126
          replace q126:=eq_true q126
          have p127:0≤(x5_1:Int):=of_decide_eq_true (by first|(with_reducible assumption)|assumption)
          have q127:x5_1<(l0.length:Int):=of_decide_eq_true (by first|(with_reducible assumption)|assumption)
          obtain ⟨ad127,e127,hx127_0⟩:=Kd.at_int HR0.out x5_1 p127 q127
          obtain rfl:ad125=ad127:=(by injection e127)
          replace p127:=eq_true p127
          replace q127:=eq_true q127
          have p128:0≤(x5_1:Int):=of_decide_eq_true (by first|(with_reducible assumption)|assumption)
          have q128:x5_1<(l1.length:Int):=of_decide_eq_true (by first|(with_reducible assumption)|assumption)
          obtain ⟨ad128,e128,hx128_0⟩:=Kd.at_int HR1.out x5_1 p128 q128
          obtain rfl:ad126=ad128:=(by injection e128)
          replace p128:=eq_true p128
          replace q128:=eq_true q128
          go_wp2
          repeat (go_quiet (fail); try go_wp2)
          go_ret
          exact ⟨by first|rfl|(simp; done)|(simp [*]; done),by repeat (first|exact Drawn0.refl _|apply Drawn0.step)⟩
       ·rw [if_neg c7] at H
        exact absurd H (by simp)
      ·rw [if_neg c6] at H
       exact absurd H (by simp)
     ·rw [if_neg c5] at H
      exact absurd H (by simp)
    ·rw [if_neg c4] at H
     have c4b0:decide (0≤x5_1)=false:=decide_eq_false c4
     clear c4
     obtain rfl:=Option.some.inj H
     go_wp2
     repeat (go_quiet (fail); try go_wp2)
     go_ret
     exact ⟨by first|rfl|(simp; done)|(simp [*]; done),by repeat (first|exact Drawn0.refl _|apply Drawn0.step)⟩
 ·rw [if_neg c3] at H
  have c3b0:((l0.length:Int) == (l1.length:Int))=false:=beq_eq_false_iff_ne.mpr c3
  have c3b1:((l0.length:Int) != (l1.length:Int))=true:=bne_iff_ne.mpr c3
  have c3b2:(l0.length == l1.length)=false:=by first|simpa using c3|(simp at c3 ⊢; omega)
  obtain rfl:=Option.some.inj H
  go_enter Tryz.func203,Tryz.ntmps203
  go_wp2
  repeat (go_quiet (fail); try go_wp2)
  go_ret
  exact ⟨by first|rfl|(simp; done)|(simp [*]; done),by repeat (first|exact Drawn0.refl _|apply Drawn0.step)⟩
end Go.Proofs.ZP
end
section
namespace Go.Proofs.ZP
open Go.RowKit Go.Proofs.ZW.Wa
theorem w64 {x:Int} (h0 : -9223372036854775808≤x) (h1:x<9223372036854775808):wrap64 x=x:=by unfold wrap64; omega
theorem zao {xs:List Int} {i:Nat} (h:i<xs.length):val (xs.take (i+1))=val (xs.take i)+4294967296^i*rd xs i:=by
 rw [List.take_succ_eq_append_getElem h,za0]
 have e:rd xs (i:Int)=xs[i]:=by
  unfold Go.Proofs.ZW.Wa.rd
  rw [Int.toNat_natCast,List.getD_eq_getElem?_getD,List.getElem?_eq_getElem h]; rfl
 rw [e,List.length_take,Nat.min_eq_left (Nat.le_of_lt h)]
 simp [val]
theorem ret_int {k:IntKind} {a b:Int} (h:a=b):Ending.returned (.int k a)=Ending.returned (.int k b):=by rw [h]
theorem zaM (r:Int):(r.sign=1∧0<r)∨(r.sign=0∧r=0)∨(r.sign = -1∧r<0):=by
 rcases Int.lt_trichotomy r 0 with h|h|h
 ·exact .inr (.inr ⟨Int.sign_eq_neg_one_of_neg h,h⟩)
 ·subst h; exact .inr (.inl ⟨rfl,rfl⟩)
 ·exact .inl ⟨Int.sign_eq_one_of_pos h,h⟩
theorem compare_loop (xs ys:List Int) (hx:Wd xs) (hy:Wd ys) (hl:xs.length=ys.length) (hm:xs.length≤9223372036854775807):∀ (i:Nat),i≤xs.length→val xs-val ys=val (xs.take i)-val (ys.take i) →
  ∀ k,i<k→∃ r,ample_compare.l0 k xs ys ((i:Int)-1)=some r∧r.sign=(val xs-val ys).sign ∧ -1≤r∧r≤1:=by
 intro i
 induction i with
 | zero =>
  intro _ he k hk
  obtain ⟨k,rfl⟩:∃ m,k=m+1:=⟨k-1,by omega⟩
  refine ⟨0,?_,by rw [he]; simp [val],by decide,by decide⟩
  simp only [ample_compare.l0]
  rw [if_neg (by omega)]
 | succ i ih =>
  intro hi he k hk
  obtain ⟨k,rfl⟩:∃ m,k=m+1:=⟨k-1,by omega⟩
  have e1:(((i+1:Nat):Int)-1)=(i:Int):=by omega
  rw [e1]
  have hxi:=zao (xs:=xs) (i:=i) (by omega)
  have hyi:=zao (xs:=ys) (i:=i) (by omega)
  simp only [ample_compare.l0]
  rw [if_pos (by omega),if_pos (by omega),if_pos (by omega),if_pos (by omega)]
  by_cases heq:rd xs (i:Int)=rd ys (i:Int)
  ·rw [if_pos heq,w64 (by omega) (by omega)]
   exact ih (by omega) (by rw [he,hxi,hyi,heq]; omega) k (by omega)
  ·rw [if_neg heq]
   have bx:=zbH (hx.take i)
   have by_:=zbH (hy.take i)
   have nx:=zap (hx.take i)
   have ny:=zap (hy.take i)
   rw [List.length_take,Nat.min_eq_left (by omega)] at bx by_
   have hp:(0:Int)<4294967296^i:=Int.pow_pos (by decide)
   by_cases hlt:rd xs (i:Int)<rd ys (i:Int)
   ·rw [if_pos hlt]
    refine ⟨-1,rfl,?_,by decide,by decide⟩
    rw [he,hxi,hyi]
    have:4294967296^i*(rd xs (i:Int)+1)≤4294967296^i*rd ys (i:Int):=Int.mul_le_mul_of_nonneg_left (by omega) (by omega)
    rw [Int.mul_add,Int.mul_one] at this
    exact (Int.sign_eq_neg_one_of_neg (by omega)).symm
   ·rw [if_neg hlt]
    refine ⟨1,rfl,?_,by decide,by decide⟩
    rw [he,hxi,hyi]
    have:4294967296^i*(rd ys (i:Int)+1)≤4294967296^i*rd xs (i:Int):=Int.mul_le_mul_of_nonneg_left (by omega) (by omega)
    rw [Int.mul_add,Int.mul_one] at this
    exact (Int.sign_eq_one_of_pos (by omega)).symm
theorem zb7 {xs ys:List Int} (hx:Wd xs) (hy:Wd ys) (ht:ys.getLast? ≠ some 0) (h:xs.length<ys.length):val xs<val ys:=by
 have h1:=zbH hx
 have h2:=val_pos hy ht (by rintro rfl; simp at h)
 have h3:(4294967296:Int)^xs.length≤4294967296^(ys.length-1):=by
  have:(4294967296:Nat)^xs.length≤4294967296^(ys.length-1):=Nat.pow_le_pow_right (by decide) (by omega)
  have:=Int.ofNat_le.2 this
  rwa [Int.natCast_pow,Int.natCast_pow] at this
 omega
theorem compare_tells (xs ys:List Int) (hx:Wd xs) (hy:Wd ys) (tx:xs.getLast? ≠ some 0) (ty:ys.getLast? ≠ some 0) (hm:xs.length≤9223372036854775807) (hm':ys.length≤9223372036854775807) :
  ∃ k r,ample_compare.f k xs ys=some r∧r.sign=(val xs-val ys).sign ∧ -9223372036854775807≤r∧r≤9223372036854775807:=by
 by_cases hl:xs.length=ys.length
 ·obtain ⟨r,hr,hs,h1,h2⟩:=compare_loop xs ys hx hy hl hm xs.length (Nat.le_refl _) (by rw [List.take_length,List.take_of_length_le (by omega)]) (xs.length+1) (by omega)
  refine ⟨xs.length+1,r,?_,hs,by omega,by omega⟩
  unfold ample_compare.f
  rw [if_pos (by omega),w64 (by omega) (by omega)]; exact hr
 ·refine ⟨0,(xs.length:Int)-ys.length,?_,?_,by omega,by omega⟩
  ·unfold ample_compare.f
   rw [if_neg (by omega),w64 (by omega) (by omega)]
  ·rcases Nat.lt_or_gt_of_ne hl with h|h
   ·have:=zb7 hx hy ty h
    rw [Int.sign_eq_neg_one_of_neg (by omega:_<(0:Int)),Int.sign_eq_neg_one_of_neg (by omega:_<(0:Int))]
   ·have:=zb7 hy hx tx h
    rw [Int.sign_eq_one_of_pos (by omega:(0:Int)<_),Int.sign_eq_one_of_pos (by omega:(0:Int)<_)]
theorem zaR (A:Option Addr) (c:Nat) (xs:List Int) (A':Option Addr) (c':Nat) (ys:List Int) (w:World) (hx:WAt w A c xs) (hy:WAt w A' c' ys) (dx:Wd xs) (dy:Wd ys) (tx:xs.getLast? ≠ some 0) (ty:ys.getLast? ≠ some 0) :
  Calls Tryz.prog 203 #[.slice A xs.length c,.slice A' ys.length c'] w fun e w'=>∃ r:Int,e = .returned (.int .i64 r)∧r.sign=(val xs-val ys).sign∧(-9223372036854775807≤r∧r≤9223372036854775807)∧Drawn0 w w':=by
 obtain ⟨k,r,hr,hs,h1,h2⟩:=compare_tells xs ys dx dy tx ty hx.lmax hy.lmax
 exact (ample_compare.calls k A c xs A' c' ys r w hx.row hx.le hy.row hy.le hr).mono fun e w' ⟨he,hd⟩=>⟨r,he,hs,⟨h1,h2⟩,hd⟩
structure Cut (ws:List Int) (n:Nat):Prop where
 le:n≤ws.length
 eq:val (ws.take n)=val ws
 top:(ws.take n).getLast? ≠ some 0
theorem zb0 (A:Option Addr) (c:Nat) (ws:List Int) (w:World) (hw:WAt w A c ws) (hwd:Wd ws) :
  Calls Tryz.prog 139 #[.slice A ws.length c] w fun e w'=>∃ n:Nat,e = .returned (.slice A n c)∧Cut ws n∧w=w':=by
 have hmax:=hw.lmax
 have hlc:=hw.le
 go_enter Tryz.func139,Tryz.ntmps139
 go_wp2
 go_loop [0] (fun v=>∃ n:Nat,n≤ws.length∧v = .slice A n c∧val (ws.take n)=val ws) (fun v=>match v with|.slice _ n _=>n|_=>0)
 case atStart=>exact ⟨ws.length,Nat.le_refl _,rfl,by rw [List.take_length]⟩
 case round =>
  obtain ⟨n,hn,rfl,hv⟩:=hrel
  have HV:=Lib.hid hv
  clear hv
  rcases Nat.eq_zero_or_pos n with h0|h0
  ·subst h0
   go_wp2
   go_ret
   exact ⟨0,rfl,⟨Nat.zero_le _,HV.out,by simp⟩,rfl⟩
  ·obtain ⟨ad,rfl⟩:=hw.ptr (by omega)
   have hcell:=hw.cell (j:=n-1) (by omega)
   by_cases hz0:ws.getD (n-1) 0=0
   ·have hv2:=zcI h0 hn hz0
    have HV2:=Lib.hid hv2
    clear hv2
    rw [hz0] at hcell
    clear hz0
    go_wp2
    go_round
    case rel=>exact ⟨n-1,by omega,by first|(simp; done)|(simp; omega),HV2.out.symm.trans HV.out⟩
    case measure=>simp; omega
   ·have hb:(ws.getD (n-1) 0 == 0)=false:=beq_eq_false_iff_ne.2 hz0
    have hN:=zcU (neg:=false) hwd hn HV.out (.inr hz0)
    have HN:=Lib.hid hN
    generalize ws.getD (n-1) 0=u at hcell hb
    clear hN hz0
    go_wp2
    go_ret
    exact ⟨n,rfl,⟨hn,HV.out,HN.out.top⟩,rfl⟩
theorem zcX (b o b' o':Nat) (x y:Int) (w:World) (hx:IntAt w b o x) (hy:IntAt w b' o' y) :
  Calls Tryz.prog 134 #[.pointer (some ⟨b,o,none⟩),.pointer (some ⟨b',o',none⟩)] w fun e w'=>e = .returned (.int .i64 (x-y).sign)∧Below w.heap.size w w':=by
 obtain ⟨neg,A,c,ws,h1,h2,h3,h4⟩:=hx.out
 obtain ⟨neg',A',c',ws',k1,k2,k3,k4⟩:=hy.out
 have hm1:=h3.lmax
 have hm2:=k3.lmax
 go_enter Tryz.func134,Tryz.ntmps134
 go_wp2_with fail
 go_region_held3 (fun w'=>w'.cell? ⟨b,o,none⟩=some (.bool neg)∧w'.cell? ⟨b,o+1,none⟩=some (.slice A ws.length c)∧w'.cell? ⟨b',o',none⟩=some (.bool neg')∧w'.cell? ⟨b',o'+1,none⟩=some (.slice A' ws'.length c'))
  (first|go_keep|exact ⟨h1,h2,k1,k2⟩)
  ((first
   | (go_simp; go_at_call 203; refine (zaR A c ws A' c' ws' _ (h3.below (zac _)) (k3.below (zac _)) h4.wd k4.wd h4.top k4.top).mono ?_; rintro e w1 ⟨r,rfl,hr,hrb,⟨⟨nd,rfl⟩⟩⟩)))
 rename_i hHeld
 generalize hq:w.drewN _=w1 at hHeld ⊢
 have hb1:Below w.heap.size w w1:=by subst hq; exact zab (Below.refl _ _) _
 have HB1:=Lib.hid hb1
 have hx1:=hx.below hb1
 have hy1:=hy.below hb1
 clear hq hb1 h1 h2 k1 k2
 obtain ⟨h1,h2,k1,k2⟩:=hHeld
 have ex:=h4.eq
 have ey:=k4.eq
 have EX:=Lib.hid ex
 have EY:=Lib.hid ey
 clear ex ey
 cases neg<;>cases neg'
 ·have key:(x-y).sign=r.sign:=by rw [hr,EX.out,EY.out]; rfl
  have KEY:=Lib.hid key
  clear key
  go_wp2_with fail
  go_quiet (fail)
  go_wp2_with fail
  all_goals
   go_ret
   refine ⟨ret_int ?_,HB1.out.trans ⟨rfl,rfl,rfl,Nat.le_refl _,fun _ _=>rfl⟩⟩
   rw [KEY.out]
   rcases zaM r with ⟨hs,hr0⟩|⟨hs,hr0⟩|⟨hs,hr0⟩<;>rw [hs]<;>omega
 ·have key:(x-y).sign=(x.sign-y.sign).sign:=by
   have:=h4.neg_iff
   have:=k4.neg_iff
   simp at *
   rcases zaM x with ⟨hs,hr0⟩|⟨hs,hr0⟩|⟨hs,hr0⟩<;>rcases zaM y with ⟨ht,ht0⟩|⟨ht,ht0⟩|⟨ht,ht0⟩<;>rw [hs,ht]<;>first
    | (exfalso; omega)
    | exact Int.sign_eq_one_of_pos (by omega)
    | exact Int.sign_eq_neg_one_of_neg (by omega)
  have KEY:=Lib.hid key
  have hsx : -1≤x.sign∧x.sign≤1:=by rcases zaM x with ⟨hs,_⟩|⟨hs,_⟩|⟨hs,_⟩<;>rw [hs]<;>decide
  have hsy : -1≤y.sign∧y.sign≤1:=by rcases zaM y with ⟨hs,_⟩|⟨hs,_⟩|⟨hs,_⟩<;>rw [hs]<;>decide
  obtain ⟨sx1,sx2⟩:=hsx
  obtain ⟨sy1,sy2⟩:=hsy
  clear key
  go_wp2_with fail
  go_quiet (fail)
  go_wp2_with fail
  refine (zaI b o x _ (hx1.below (zab (Below.refl _ _) _))).mono ?_
  rintro e w2 ⟨rfl,rfl⟩
  go_wp2_with fail
  refine (zaI b' o' y _ (hy1.below (zab (Below.refl _ _) _))).mono ?_
  rintro e w2 ⟨rfl,rfl⟩
  go_wp2_with fail
  all_goals
   go_ret
   refine ⟨ret_int ?_,HB1.out.trans ⟨rfl,rfl,rfl,Nat.le_refl _,fun _ _=>rfl⟩⟩
   rw [KEY.out]
   rcases zaM (x.sign-y.sign) with ⟨hs,hr0⟩|⟨hs,hr0⟩|⟨hs,hr0⟩<;>rw [hs]<;>omega
 ·have key:(x-y).sign=(x.sign-y.sign).sign:=by
   have:=h4.neg_iff
   have:=k4.neg_iff
   simp at *
   rcases zaM x with ⟨hs,hr0⟩|⟨hs,hr0⟩|⟨hs,hr0⟩<;>rcases zaM y with ⟨ht,ht0⟩|⟨ht,ht0⟩|⟨ht,ht0⟩<;>rw [hs,ht]<;>first
    | (exfalso; omega)
    | exact Int.sign_eq_one_of_pos (by omega)
    | exact Int.sign_eq_neg_one_of_neg (by omega)
  have KEY:=Lib.hid key
  have hsx : -1≤x.sign∧x.sign≤1:=by rcases zaM x with ⟨hs,_⟩|⟨hs,_⟩|⟨hs,_⟩<;>rw [hs]<;>decide
  have hsy : -1≤y.sign∧y.sign≤1:=by rcases zaM y with ⟨hs,_⟩|⟨hs,_⟩|⟨hs,_⟩<;>rw [hs]<;>decide
  obtain ⟨sx1,sx2⟩:=hsx
  obtain ⟨sy1,sy2⟩:=hsy
  clear key
  go_wp2_with fail
  go_quiet (fail)
  go_wp2_with fail
  refine (zaI b o x _ (hx1.below (zab (Below.refl _ _) _))).mono ?_
  rintro e w2 ⟨rfl,rfl⟩
  go_wp2_with fail
  refine (zaI b' o' y _ (hy1.below (zab (Below.refl _ _) _))).mono ?_
  rintro e w2 ⟨rfl,rfl⟩
  go_wp2_with fail
  all_goals
   go_ret
   refine ⟨ret_int ?_,HB1.out.trans ⟨rfl,rfl,rfl,Nat.le_refl _,fun _ _=>rfl⟩⟩
   rw [KEY.out]
   rcases zaM (x.sign-y.sign) with ⟨hs,hr0⟩|⟨hs,hr0⟩|⟨hs,hr0⟩<;>rw [hs]<;>omega
 ·have key:(x-y).sign=(-r).sign:=by rw [Int.sign_neg,hr,EX.out,EY.out,←Int.sign_neg]; simp only [if_true]; congr 1; omega
  have KEY:=Lib.hid key
  clear key
  go_wp2_with fail
  go_quiet (fail)
  go_wp2_with fail
  all_goals
   go_ret
   refine ⟨ret_int ?_,HB1.out.trans ⟨rfl,rfl,rfl,Nat.le_refl _,fun _ _=>rfl⟩⟩
   rw [KEY.out]
   rcases zaM (-r) with ⟨hs,hr0⟩|⟨hs,hr0⟩|⟨hs,hr0⟩<;>rw [hs]<;>omega
def OwnW (w:World) (base:Nat) (v:Value) (zs:List Int):Prop:=w.ownsRow base 144 1 v zs.length (nums .u32 zs)
theorem OwnW.wat {w:World} {base:Nat} {v:Value} {zs:List Int} (h:OwnW w base v zs):∃ A c,v = .slice A zs.length c∧WAt w A c zs:=WAt.of_own h
theorem za6 {zs:List Int} {i:Nat} (h:i<zs.length) (v:Int):val ((zs.set i v).take (i+1))=val (zs.take i)+4294967296^i*v:=by
  rw [List.take_succ_eq_append_getElem (by simpa using h),za0,List.take_set_of_le (Nat.le_refl i),List.length_take,Nat.min_eq_left (Nat.le_of_lt h)]
  simp [val]
theorem zbA {zs:List Int} (h:Wd zs) (i:Nat) {v:Int} (h0:0≤v) (h1:v<4294967296):Wd (zs.set i v):=fun u hu=>by
  rcases List.mem_or_eq_of_mem_set hu with hu|rfl
  · exact h u hu
  · exact ⟨h0,h1⟩
theorem zbS (n:Nat):Wd (List.replicate n 0):=fun u hu=>by
  rw [List.eq_of_mem_replicate hu]; decide
theorem zaO (xs:List Int) (i:Nat):xs.getD i 0=rd xs (i:Int):=by unfold Go.Proofs.ZW.Wa.rd; rw [Int.toNat_natCast]
theorem sum_step {P zt xt yt x y c s:Int} (h:zt+P*c=xt+yt) (hs:s=x+y+c):zt+P*(s%4294967296)+P*4294967296*(s/4294967296)=xt+P*x+(yt+P*y):=by
  have e:s%4294967296+4294967296*(s/4294967296)=s:=Int.emod_add_mul_ediv s 4294967296
  have:P*(s%4294967296)+P*4294967296*(s/4294967296)=P*s:=by rw [←e]; generalize s%4294967296=q; generalize s/4294967296=r; rw [Int.mul_assoc,←Int.mul_add,Int.add_mul_emod_self_left,Int.add_mul_ediv_left _ _ (by decide)]; grind
  rw [Int.add_assoc,this,hs]
  grind
theorem zcJ (A : Option Addr) (cx : Nat) (xs : List Int) (A' : Option Addr) (cy : Nat) (ys : List Int) (w : World) (hx : WAt w A cx xs) (hy : WAt w A' cy ys) (dx : Wd xs) (dy : Wd ys) (lx : xs.length ≤ 35184372088832) (ly : ys.length ≤ 35184372088832) :
    Calls Tryz.prog 220 #[.slice A xs.length cx,.slice A' ys.length cy] w fun e w'=>∃ (B:Option Addr) (c:Nat) (zs:List Int),e = .returned (.slice B zs.length c)∧WAt w' B c zs∧Wd zs∧val zs=val xs+val ys∧zs.length≤xs.length+ys.length+1∧Below w.heap.size w w':=by
  have hl1:=hx.le
  have hl2:=hy.le
  by_cases hlt:xs.length<ys.length
  · clear hl1 hl2
    have hmk:=zbw (P:=Tryz.prog) 68 144 .u32 4 Tryz.underlying68 zcD (by decide) (ys.length+1) (by omega)
    have hown:=zcb w w.heap.size 144 .u32 (ys.length+1) (Nat.le_refl _) (by omega)
    have HOWN:=Lib.hid hown
    clear hown
    have ec:(((ys.length+1:Nat)):Int)=(ys.length:Int)+1:=by omega
    rw [ec] at hmk
    clear ec
    go_enter Tryz.func220,Tryz.ntmps220
    go_wp2
    clear hmk
    go_loopw [6,22] (fun vc vi wr=>∃ (i:Nat) (c:Int) (zs:List Int),i≤ys.length∧0≤c∧c≤1∧vc = .int .u64 c∧vi = .int .i64 i∧zs.length=ys.length+1∧Wd zs∧OwnW wr w.heap.size (.slice (some ⟨w.heap.size,0,none⟩) (ys.length+1) (ys.length+1)) zs∧Below w.heap.size w wr ∧
        val (zs.take i)+4294967296^i*c=val (ys.take i)+val (xs.take i)) (fun _ vi _=>ys.length-(intOf vi).toNat)
    case atStart=>exact ⟨0,0,List.replicate (ys.length+1) 0,by omega,by omega,by omega,rfl,rfl,by simp,zbS _,by unfold OwnW; rw [List.length_replicate]; exact HOWN.out,zaa (Below.refl _ _) _,by simp [val]⟩
    case round =>
      obtain ⟨i,c,zs,hi,hc0,hc1,rfl,rfl,hzl,hzd,hO,hB,hv⟩:=hrel
      have HV:=Lib.hid hv
      have HO:=Lib.hid hO
      have HZL:=Lib.hid hzl
      clear hv hO hzl
      have HOA:=Lib.hid (show wr.ownsRow w.heap.size 144 1 (.slice (some ⟨w.heap.size,0,none⟩) (ys.length+1) (ys.length+1)) (ys.length+1) (nums .u32 zs) by have:=HO.out; unfold OwnW at this; rw [HZL.out] at this; exact this)
      by_cases hil:i<ys.length
      · obtain ⟨ad,rfl⟩:=hy.ptr (by omega)
        have hcx:=(hy.below hB).cell (j:=i) hil
        have hbx:=dy.rd (i:Int)
        rw [zaO] at hcx
        obtain ⟨hs1,hs2⟩:=zbP HOA.out (i:Int) (by omega) (by omega)
        have hst:=zaX HOA.out (i:Int)
        rw [Int.toNat_natCast] at hs1 hs2 hst
        have HST:=Lib.hid hst
        clear hst
        have hvx:=zao (xs:=ys) hil
        have HVX:=Lib.hid hvx
        clear hvx
        generalize rd ys (i:Int)=x at hcx hbx HVX
        obtain ⟨hbx0,hbx1⟩:=hbx
        have fin:∀ s:Int,0≤s→s<2*4294967296→∀ y:Int,s=x+y+c→val (xs.take (i+1))=val (xs.take i)+4294967296^i*y →
            Wd (zs.set i (s%4294967296))∧OwnW (wr.setCell ⟨w.heap.size,i,none⟩ (.int .u32 (s%4294967296))) w.heap.size (.slice (some ⟨w.heap.size,0,none⟩) (ys.length+1) (ys.length+1)) (zs.set i (s%4294967296))∧Below w.heap.size w (wr.setCell ⟨w.heap.size,i,none⟩ (.int .u32 (s%4294967296))) ∧
            val ((zs.set i (s%4294967296)).take (i+1))+4294967296^(i+1)*(s/4294967296)=val (ys.take (i+1))+val (xs.take (i+1)):=fun s hs0 hs1 y hy hyt=>by
          refine ⟨zbA hzd _ (by omega) (by omega),?_,hB.setCell (Nat.le_refl _) _,?_⟩
          · unfold OwnW
            rw [List.length_set,HZL.out]
            exact (HST.out _).1
          · rw [za6 (by rw [HZL.out]; omega),HVX.out,hyt,Int.pow_succ]
            exact sum_step HV.out hy
        have FIN:=Lib.hid fin
        clear fin
        by_cases hiy:i<xs.length
        · obtain ⟨ad',rfl⟩:=hx.ptr (by omega)
          have hcy:=(hx.below hB).cell (j:=i) hiy
          have hby:=dx.rd (i:Int)
          rw [zaO] at hcy
          have hvy:=zao (xs:=xs) hiy
          have HVY:=Lib.hid hvy
          clear hvy
          generalize rd xs (i:Int)=y at hcy hby HVY
          obtain ⟨hby0,hby1⟩:=hby
          go_wp2
          go_roundw
          case rel =>
            obtain ⟨f1,f2,f3,f4⟩:=FIN.out (c+x+y) (by omega) (by omega) y (by omega) HVY.out
            exact ⟨i+1,(c+x+y)/4294967296,_,by omega,by omega,by omega,rfl,by go_num,by rw [List.length_set,HZL.out],f1,f2,f3,f4⟩
          case measure=>simp [intOf]; omega
        · have hvy:val (xs.take (i+1))=val (xs.take i)+4294967296^i*0:=by rw [List.take_of_length_le (by omega),List.take_of_length_le (by omega)]; omega
          have HVY:=Lib.hid hvy
          clear hvy
          go_wp2
          go_roundw
          case rel =>
            obtain ⟨f1,f2,f3,f4⟩:=FIN.out (c+x) (by omega) (by omega) 0 (by omega) HVY.out
            exact ⟨i+1,(c+x)/4294967296,_,by omega,by omega,by omega,rfl,by go_num,by rw [List.length_set,HZL.out],f1,f2,f3,f4⟩
          case measure=>simp [intOf]; omega
      · obtain rfl:i=ys.length:=by omega
        obtain ⟨hs1,hs2⟩:=zbP HOA.out (ys.length:Int) (by omega) (by omega)
        have hst:=zaX HOA.out (ys.length:Int) c
        rw [Int.toNat_natCast] at hs1 hs2 hst
        have HST:=Lib.hid hst
        clear hst
        go_wp2
        go_ret
        have hw2:OwnW (wr.setCell ⟨w.heap.size,ys.length,none⟩ (.int .u32 c)) w.heap.size (.slice (some ⟨w.heap.size,0,none⟩) (ys.length+1) (ys.length+1)) (zs.set ys.length c):=by
          unfold OwnW
          rw [List.length_set,HZL.out]
          exact HST.out.1
        obtain ⟨A2,c2,he,hw3⟩:=hw2.wat
        injection he with e1 e2 e3
        subst e1; subst e3
        have hlen:(zs.set ys.length c).length=ys.length+1:=by rw [List.length_set,HZL.out]
        refine ⟨_,_,zs.set ys.length c,by rw [hlen]; rfl,hw3,zbA hzd _ (by omega) (by omega),?_,by rw [hlen]; omega,hB.setCell (Nat.le_refl _) _⟩
        have hv1:=za6 (zs:=zs) (i:=ys.length) (by rw [HZL.out]; omega) c
        rw [List.take_of_length_le (by omega)] at hv1
        have hv2:=HV.out
        rw [List.take_length,List.take_of_length_le (by omega:xs.length≤_)] at hv2
        rw [hv1,hv2]; omega
  · clear hl1 hl2
    have hmk:=zbw (P:=Tryz.prog) 68 144 .u32 4 Tryz.underlying68 zcD (by decide) (xs.length+1) (by omega)
    have hown:=zcb w w.heap.size 144 .u32 (xs.length+1) (Nat.le_refl _) (by omega)
    have HOWN:=Lib.hid hown
    clear hown
    have ec:(((xs.length+1:Nat)):Int)=(xs.length:Int)+1:=by omega
    rw [ec] at hmk
    clear ec
    go_enter Tryz.func220,Tryz.ntmps220
    go_wp2
    clear hmk
    go_loopw [6,22] (fun vc vi wr=>∃ (i:Nat) (c:Int) (zs:List Int),i≤xs.length∧0≤c∧c≤1∧vc = .int .u64 c∧vi = .int .i64 i∧zs.length=xs.length+1∧Wd zs∧OwnW wr w.heap.size (.slice (some ⟨w.heap.size,0,none⟩) (xs.length+1) (xs.length+1)) zs∧Below w.heap.size w wr ∧
        val (zs.take i)+4294967296^i*c=val (xs.take i)+val (ys.take i)) (fun _ vi _=>xs.length-(intOf vi).toNat)
    case atStart=>exact ⟨0,0,List.replicate (xs.length+1) 0,by omega,by omega,by omega,rfl,rfl,by simp,zbS _,by unfold OwnW; rw [List.length_replicate]; exact HOWN.out,zaa (Below.refl _ _) _,by simp [val]⟩
    case round =>
      obtain ⟨i,c,zs,hi,hc0,hc1,rfl,rfl,hzl,hzd,hO,hB,hv⟩:=hrel
      have HV:=Lib.hid hv
      have HO:=Lib.hid hO
      have HZL:=Lib.hid hzl
      clear hv hO hzl
      have HOA:=Lib.hid (show wr.ownsRow w.heap.size 144 1 (.slice (some ⟨w.heap.size,0,none⟩) (xs.length+1) (xs.length+1)) (xs.length+1) (nums .u32 zs) by have:=HO.out; unfold OwnW at this; rw [HZL.out] at this; exact this)
      by_cases hil:i<xs.length
      · obtain ⟨ad,rfl⟩:=hx.ptr (by omega)
        have hcx:=(hx.below hB).cell (j:=i) hil
        have hbx:=dx.rd (i:Int)
        rw [zaO] at hcx
        obtain ⟨hs1,hs2⟩:=zbP HOA.out (i:Int) (by omega) (by omega)
        have hst:=zaX HOA.out (i:Int)
        rw [Int.toNat_natCast] at hs1 hs2 hst
        have HST:=Lib.hid hst
        clear hst
        have hvx:=zao (xs:=xs) hil
        have HVX:=Lib.hid hvx
        clear hvx
        generalize rd xs (i:Int)=x at hcx hbx HVX
        obtain ⟨hbx0,hbx1⟩:=hbx
        have fin:∀ s:Int,0≤s→s<2*4294967296→∀ y:Int,s=x+y+c→val (ys.take (i+1))=val (ys.take i)+4294967296^i*y →
            Wd (zs.set i (s%4294967296))∧OwnW (wr.setCell ⟨w.heap.size,i,none⟩ (.int .u32 (s%4294967296))) w.heap.size (.slice (some ⟨w.heap.size,0,none⟩) (xs.length+1) (xs.length+1)) (zs.set i (s%4294967296))∧Below w.heap.size w (wr.setCell ⟨w.heap.size,i,none⟩ (.int .u32 (s%4294967296))) ∧
            val ((zs.set i (s%4294967296)).take (i+1))+4294967296^(i+1)*(s/4294967296)=val (xs.take (i+1))+val (ys.take (i+1)):=fun s hs0 hs1 y hy hyt=>by
          refine ⟨zbA hzd _ (by omega) (by omega),?_,hB.setCell (Nat.le_refl _) _,?_⟩
          · unfold OwnW
            rw [List.length_set,HZL.out]
            exact (HST.out _).1
          · rw [za6 (by rw [HZL.out]; omega),HVX.out,hyt,Int.pow_succ]
            exact sum_step HV.out hy
        have FIN:=Lib.hid fin
        clear fin
        by_cases hiy:i<ys.length
        · obtain ⟨ad',rfl⟩:=hy.ptr (by omega)
          have hcy:=(hy.below hB).cell (j:=i) hiy
          have hby:=dy.rd (i:Int)
          rw [zaO] at hcy
          have hvy:=zao (xs:=ys) hiy
          have HVY:=Lib.hid hvy
          clear hvy
          generalize rd ys (i:Int)=y at hcy hby HVY
          obtain ⟨hby0,hby1⟩:=hby
          go_wp2
          go_roundw
          case rel =>
            obtain ⟨f1,f2,f3,f4⟩:=FIN.out (c+x+y) (by omega) (by omega) y (by omega) HVY.out
            exact ⟨i+1,(c+x+y)/4294967296,_,by omega,by omega,by omega,rfl,by go_num,by rw [List.length_set,HZL.out],f1,f2,f3,f4⟩
          case measure=>simp [intOf]; omega
        · have hvy:val (ys.take (i+1))=val (ys.take i)+4294967296^i*0:=by rw [List.take_of_length_le (by omega),List.take_of_length_le (by omega)]; omega
          have HVY:=Lib.hid hvy
          clear hvy
          go_wp2
          go_roundw
          case rel =>
            obtain ⟨f1,f2,f3,f4⟩:=FIN.out (c+x) (by omega) (by omega) 0 (by omega) HVY.out
            exact ⟨i+1,(c+x)/4294967296,_,by omega,by omega,by omega,rfl,by go_num,by rw [List.length_set,HZL.out],f1,f2,f3,f4⟩
          case measure=>simp [intOf]; omega
      · obtain rfl:i=xs.length:=by omega
        obtain ⟨hs1,hs2⟩:=zbP HOA.out (xs.length:Int) (by omega) (by omega)
        have hst:=zaX HOA.out (xs.length:Int) c
        rw [Int.toNat_natCast] at hs1 hs2 hst
        have HST:=Lib.hid hst
        clear hst
        go_wp2
        go_ret
        have hw2:OwnW (wr.setCell ⟨w.heap.size,xs.length,none⟩ (.int .u32 c)) w.heap.size (.slice (some ⟨w.heap.size,0,none⟩) (xs.length+1) (xs.length+1)) (zs.set xs.length c):=by
          unfold OwnW
          rw [List.length_set,HZL.out]
          exact HST.out.1
        obtain ⟨A2,c2,he,hw3⟩:=hw2.wat
        injection he with e1 e2 e3
        subst e1; subst e3
        have hlen:(zs.set xs.length c).length=xs.length+1:=by rw [List.length_set,HZL.out]
        refine ⟨_,_,zs.set xs.length c,by rw [hlen]; rfl,hw3,zbA hzd _ (by omega) (by omega),?_,by rw [hlen]; omega,hB.setCell (Nat.le_refl _) _⟩
        have hv1:=za6 (zs:=zs) (i:=xs.length) (by rw [HZL.out]; omega) c
        rw [List.take_of_length_le (by omega)] at hv1
        have hv2:=HV.out
        rw [List.take_length,List.take_of_length_le (by omega:ys.length≤_)] at hv2
        rw [hv1,hv2]
def bw (x y b:Int):Int:=if x<y+b then 1 else 0
theorem bw_range (x y b:Int):0≤bw x y b∧bw x y b≤1:=by unfold bw; split<;>decide
theorem bw_eq (x y b:Int) (hx:0≤x∧x<4294967296) (hy:0≤y∧y<4294967296) (hb:0≤b∧b≤1):(x-y-b)%4294967296=x-y-b+4294967296*bw x y b:=by
  unfold bw; split<;>omega
theorem top_bit (n:Nat) (h:n<4294967296):n >>> 31=0∨n >>> 31=1:=by
  rw [Nat.shiftRight_eq_div_pow]; omega
theorem sub32_nat (X Y b D:Nat) (hx:X<4294967296) (hy:Y<4294967296) (hb:b≤1) (hd:D=(X+8589934592-Y-b)%4294967296) :
    (((4294967295 ^^^ X) &&& Y) ||| ((4294967295 ^^^ (X ^^^ Y)) &&& D))/2147483648=if X<Y+b then 1 else 0:=by
  have e:∀ n:Nat,n/2147483648=n >>> 31:=fun n=>by rw [Nat.shiftRight_eq_div_pow]
  have hD:D<4294967296:=by omega
  rw [e,Nat.shiftRight_or_distrib,Nat.shiftRight_and_distrib,Nat.shiftRight_and_distrib,Nat.shiftRight_xor_distrib,Nat.shiftRight_xor_distrib,Nat.shiftRight_xor_distrib]
  have h1:(4294967295:Nat) >>> 31=1:=by decide
  rw [h1]
  have ex:X >>> 31=X/2147483648:=(e X).symm
  have ey:Y >>> 31=Y/2147483648:=(e Y).symm
  have ed:D >>> 31=D/2147483648:=(e D).symm
  rcases top_bit X hx with kx|kx<;>rcases top_bit Y hy with ky|ky<;>rcases top_bit D hD with kd|kd<;>rw [kx,ky,kd]<;>(first|rw [if_pos (by omega)]; done|rw [if_neg (by omega)]; done|(rw [if_pos (by omega)]; decide)|(rw [if_neg (by omega)]; decide)|(exfalso; omega))
theorem sub32_int (x y b:Int) (hx:0≤x∧x<4294967296) (hy:0≤y∧y<4294967296) (hb:0≤b∧b≤1) :
    bits BinOp.or IntKind.u32 (bits BinOp.and IntKind.u32 (bits BinOp.xor IntKind.u32 4294967295 x) y) (bits BinOp.and IntKind.u32 (bits BinOp.xor IntKind.u32 4294967295 (bits BinOp.xor IntKind.u32 x y)) ((x-y-b)%4294967296))/2147483648=bw x y b:=by
  obtain ⟨X,rfl⟩:=Int.eq_ofNat_of_zero_le hx.1
  obtain ⟨Y,rfl⟩:=Int.eq_ofNat_of_zero_le hy.1
  obtain ⟨c,rfl⟩:=Int.eq_ofNat_of_zero_le hb.1
  obtain ⟨D,hD⟩:=Int.eq_ofNat_of_zero_le (show 0≤((X:Int)-Y-c)%4294967296 by omega)
  have hx1:X<4294967296:=by omega
  have hy1:Y<4294967296:=by omega
  have hd1:D<4294967296:=by omega
  rw [hD]
  have a1:(4294967295:Int)=((4294967295:Nat):Int):=rfl
  rw [a1,u32_xor_nat _ _ (by decide) hx1,u32_xor_nat _ _ hx1 hy1]
  have b1:4294967295 ^^^ X<4294967296:=Nat.xor_lt_two_pow (n:=32) (by decide) hx1
  have b2:X ^^^ Y<4294967296:=Nat.xor_lt_two_pow (n:=32) hx1 hy1
  rw [u32_and_nat _ _ b1 hy1,u32_xor_nat _ _ (by decide) b2]
  have b3:4294967295 ^^^ (X ^^^ Y)<4294967296:=Nat.xor_lt_two_pow (n:=32) (by decide) b2
  rw [u32_and_nat _ _ b3 hd1]
  have b4:(4294967295 ^^^ X) &&& Y<4294967296:=Nat.and_lt_two_pow (n:=32) _ hy1
  have b5:(4294967295 ^^^ (X ^^^ Y)) &&& D<4294967296:=Nat.and_lt_two_pow (n:=32) _ hd1
  rw [u32_or_nat _ _ b4 b5]
  have:=sub32_nat X Y c D hx1 hy1 (by omega) (by omega)
  have h2:((((4294967295 ^^^ X) &&& Y ||| (4294967295 ^^^ (X ^^^ Y)) &&& D)/2147483648:Nat):Int)=((if X<Y+c then 1 else 0:Nat):Int):=by rw [this]
  unfold bw
  rw [Int.natCast_ediv] at h2
  rw [show ((2147483648:Nat):Int)=2147483648 from rfl] at h2
  rw [h2]
  by_cases h:X<Y+c
  · rw [if_pos h,if_pos (by omega)]; rfl
  · rw [if_neg h,if_neg (by omega)]; rfl
theorem sub32_calls (x y b:Int) (w:World) (hx:0≤x∧x<4294967296) (hy:0≤y∧y<4294967296) (hb:0≤b∧b≤1) :
    Calls Tryz.prog 247 #[.int .u32 x,.int .u32 y,.int .u32 b] w fun e w'=>e = .returned (.tuple #[.int .u32 ((x-y-b)%4294967296),.int .u32 (bw x y b)])∧w=w':=by
  have hs:=sub32_int x y b hx hy hb
  have HS:=Lib.hid hs
  clear hs
  obtain ⟨hx0,hx1⟩:=hx
  obtain ⟨hy0,hy1⟩:=hy
  obtain ⟨hb0,hb1⟩:=hb
  go_enter Tryz.func247,Tryz.ntmps247
  go_wp2
  all_goals first
    | (rename_i hc; exact absurd hc (by decide))
    | (go_ret2
       exact ⟨by have:=HS.out; rw [←this]; rfl,rfl⟩)
theorem less_step {P zt xt yt x y b:Int} (h:zt=xt-yt+P*b) (hx:0≤x∧x<4294967296) (hy:0≤y∧y<4294967296) (hb:0≤b∧b≤1):zt+P*((x-y-b)%4294967296)=xt+P*x-(yt+P*y)+P*4294967296*bw x y b:=by
  rw [bw_eq x y b hx hy hb,h]
  grind
theorem zbK (A : Option Addr) (cx : Nat) (xs : List Int) (A' : Option Addr) (cy : Nat) (ys : List Int) (w : World) (hx : WAt w A cx xs) (hy : WAt w A' cy ys) (dx : Wd xs) (dy : Wd ys) (lx : xs.length ≤ 35184372088832) (hle : val ys ≤ val xs) (hly : ys.length ≤ xs.length) :
    Calls Tryz.prog 221 #[.slice A xs.length cx,.slice A' ys.length cy] w fun e w'=>∃ (B:Option Addr) (c:Nat) (zs:List Int),e = .returned (.slice B zs.length c)∧WAt w' B c zs∧Wd zs∧val zs=val xs-val ys∧zs.length=xs.length∧Below w.heap.size w w':=by
    have hmk:=zbw (P:=Tryz.prog) 68 144 .u32 4 Tryz.underlying68 zcD (by decide) xs.length (by omega)
    have hown:=zcb w w.heap.size 144 .u32 xs.length (Nat.le_refl _) (by omega)
    have HOWN:=Lib.hid hown
    clear hown
    go_enter Tryz.func221,Tryz.ntmps221
    go_wp2
    clear hmk
    go_loopw [6,15] (fun vc vi wr=>∃ (i:Nat) (c:Int) (zs:List Int),i≤xs.length∧0≤c∧c≤1∧vc = .int .u32 c∧vi = .int .i64 i∧zs.length=xs.length∧Wd zs∧OwnW wr w.heap.size (.slice (some ⟨w.heap.size,0,none⟩) xs.length xs.length) zs∧Below w.heap.size w wr ∧
        val (zs.take i)=val (xs.take i)-val (ys.take i)+4294967296^i*c) (fun _ vi _=>xs.length-(intOf vi).toNat)
    case atStart=>exact ⟨0,0,List.replicate xs.length 0,by omega,by omega,by omega,rfl,rfl,by simp,zbS _,by unfold OwnW; rw [List.length_replicate]; exact HOWN.out,zaa (Below.refl _ _) _,by simp [val]⟩
    case round =>
      obtain ⟨i,c,zs,hi,hc0,hc1,rfl,rfl,hzl,hzd,hO,hB,hv⟩:=hrel
      have HV:=Lib.hid hv
      have HO:=Lib.hid hO
      have HZL:=Lib.hid hzl
      clear hv hO hzl
      have HOA:=Lib.hid (show wr.ownsRow w.heap.size 144 1 (.slice (some ⟨w.heap.size,0,none⟩) xs.length xs.length) xs.length (nums .u32 zs) by have:=HO.out; unfold OwnW at this; rw [HZL.out] at this; exact this)
      by_cases hil:i<xs.length
      · obtain ⟨ad,rfl⟩:=hx.ptr (by omega)
        have hcx:=(hx.below hB).cell (j:=i) hil
        have hbx:=dx.rd (i:Int)
        rw [zaO] at hcx
        obtain ⟨hs1,hs2⟩:=zbP HOA.out (i:Int) (by omega) (by omega)
        have hst:=zaX HOA.out (i:Int)
        rw [Int.toNat_natCast] at hs1 hs2 hst
        have HST:=Lib.hid hst
        clear hst
        have hvx:=zao (xs:=xs) hil
        have HVX:=Lib.hid hvx
        clear hvx
        generalize rd xs (i:Int)=x at hcx hbx HVX
        have hbx':=hbx
        obtain ⟨hbx0,hbx1⟩:=hbx
        have fin:∀ y:Int,0≤y∧y<4294967296→val (ys.take (i+1))=val (ys.take i)+4294967296^i*y →
            Wd (zs.set i ((x-y-c)%4294967296))∧OwnW (wr.setCell ⟨w.heap.size,i,none⟩ (.int .u32 ((x-y-c)%4294967296))) w.heap.size (.slice (some ⟨w.heap.size,0,none⟩) xs.length xs.length) (zs.set i ((x-y-c)%4294967296))∧Below w.heap.size w (wr.setCell ⟨w.heap.size,i,none⟩ (.int .u32 ((x-y-c)%4294967296))) ∧
            val ((zs.set i ((x-y-c)%4294967296)).take (i+1))=val (xs.take (i+1))-val (ys.take (i+1))+4294967296^(i+1)*bw x y c:=fun y hy0 hyt=>by
          refine ⟨zbA hzd _ (by omega) (by omega),?_,hB.setCell (Nat.le_refl _) _,?_⟩
          · unfold OwnW
            rw [List.length_set,HZL.out]
            exact (HST.out _).1
          · rw [za6 (by rw [HZL.out]; omega),HVX.out,hyt,Int.pow_succ]
            exact less_step HV.out hbx' hy0 ⟨hc0,hc1⟩
        have FIN:=Lib.hid fin
        clear fin
        by_cases hiy:i<ys.length
        · obtain ⟨ad',rfl⟩:=hy.ptr (by omega)
          have hcy:=(hy.below hB).cell (j:=i) hiy
          have hby:=dy.rd (i:Int)
          rw [zaO] at hcy
          have hvy:=zao (xs:=ys) hiy
          have HVY:=Lib.hid hvy
          clear hvy
          generalize rd ys (i:Int)=y at hcy hby HVY
          go_wp2_with (go_at_call 247; refine (sub32_calls x y c _ hbx' hby ⟨hc0,hc1⟩).mono ?_; rintro e w2 ⟨rfl,rfl⟩)
          go_roundw
          case rel =>
            obtain ⟨f1,f2,f3,f4⟩:=FIN.out y hby HVY.out
            exact ⟨i+1,bw x y c,_,by omega,(bw_range x y c).1,(bw_range x y c).2,rfl,by go_num,by rw [List.length_set,HZL.out],f1,f2,f3,f4⟩
          case measure=>simp [intOf]; omega
        · have hvy:val (ys.take (i+1))=val (ys.take i)+4294967296^i*0:=by rw [List.take_of_length_le (by omega),List.take_of_length_le (by omega)]; omega
          have HVY:=Lib.hid hvy
          clear hvy
          go_wp2_with (go_at_call 247; refine (sub32_calls x 0 c _ hbx' (by decide) ⟨hc0,hc1⟩).mono ?_; rintro e w2 ⟨rfl,rfl⟩)
          go_roundw
          case rel =>
            obtain ⟨f1,f2,f3,f4⟩:=FIN.out 0 (by decide) HVY.out
            rw [Int.sub_zero] at f1 f2 f3 f4
            exact ⟨i+1,bw x 0 c,_,by omega,(bw_range x 0 c).1,(bw_range x 0 c).2,rfl,by go_num,by rw [List.length_set,HZL.out],f1,f2,f3,f4⟩
          case measure=>simp [intOf]; omega
      · obtain rfl:i=xs.length:=by omega
        go_wp2
        go_ret
        obtain ⟨A2,c2,he,hw3⟩:=HO.out.wat
        injection he with e1 e2 e3
        subst e1; subst e3
        refine ⟨_,_,zs,by rw [HZL.out]; rfl,hw3,hzd,?_,HZL.out,hB⟩
        have hv2:=HV.out
        rw [List.take_length,List.take_of_length_le (by omega:ys.length≤_),List.take_of_length_le (by rw [HZL.out]; omega)] at hv2
        have h3:=zbH hzd
        have h4:=zap hzd
        rw [HZL.out] at h3
        have h5:c=0:=by
          rcases (show c=0∨c=1 by omega) with h|h
          · exact h
          · subst h; omega
        subst h5
        omega
end Go.Proofs.ZP
end
