/- Texts under the proof, joined by a program (prune.py): STabRef, Q148, QLent, HBase, HPut, HInt1, HInt2, P0. -/
import Derived.Test.YtglaeambknhjlaaGreatDoorCShowTable02
import Derived.Test.YtglaeambknhjlaaGreatDoorCShowTable04
import Derived.Test.YtglaeambknhjlaaGreatDoorCShowTable01
import Derived.Lib.Hide
import Derived.Below
import Derived.OwnWalk
import Derived.RowKit3
import Derived.Deep.Draws
import Derived.Test.YtglaeambknhjlaaGreatDoorCShowTable00
import Derived.Test.YtglaeambknhjlaaGreatDoorProg
import Derived.WalkKit
import Derived.WalkLawsBesides
import Derived.WalkSpells
import Derived.KernelRfl
import Derived.Deep.LoopGhost
import Derived.Deep.QuietTactic
import Derived.BigQuiet
import Derived.Deep.RegionHeld3
import Derived.Lib.LazyBuf
import Derived.RegionCalls
import Derived.Deep.RegionWith
import Derived.Deep.AppendLies
import Derived.Maps.AppendAt
import Derived.Laws.BytesArg
import Derived.Laws.MakeOwn
import Derived.Laws.OwnMore
import Derived.Deep.OwnRows
import Derived.Tactics
import Derived.Lib.ConvBytes
import Derived.Laws.Slices
import Derived.WideLaws
import Derived.Deep.DeepCutAuto
import Derived.Deep.CutBlock
import Derived.Laws.Rows
import Derived.Lib.AppendStr
import Derived.ArgAppend
import Derived.Laws.IdiomCopy
import Derived.OrdersHeld
import Derived.Laws.BitsLemmas
import Derived.RowKit
import Derived.Laws.StructEq
set_option linter.unusedVariables false
set_option linter.unusedSimpArgs false
set_option exponentiation.threshold 20001
set_option maxHeartbeats 8000000
set_option maxRecDepth 100000
section
namespace Go.Proofs.YtglaeambknhjlaaGreatDoor.Q
open Go.RowKit Go.Proofs.YtglaeambknhjlaaGreatDoorW.PrintWords
theorem rdl (R:List (List ByteArray)) (i:Nat):rd_L4 R (i:Int)=gd R i:=by unfold rd_L4 gd; rw [Int.toNat_natCast]
theorem rdc (R:List (List ByteArray)) (i k:Nat):rdOf ByteArray.empty (gd R i) (k:Int)=ce R i k:=by unfold rdOf ce; rw [Int.toNat_natCast]
theorem wr1 {k:Nat} (h:k≤2000000000):wrap64 ((k:Int)+1)=((k+1:Nat):Int):=by unfold wrap64; omega
theorem ref_l7 {R:List (List ByteArray)} (hc:∀ i,(gd R i).length≤100) {W:List Int} (hW:∀ q:Nat,0≤rd W (q:Int)∧rd W (q:Int)≤1048576) {i k:Nat} (hi:i<R.length) (hk:k<(gd R i).length) (hkW:k<W.length) {r:ByteArray×Int}:∀ (d j:Nat) (xs:List Int),xs.length≤300000000000→(if (k:Int)<((gd R i).length:Int)-1 then (rd W (k:Int)+2-(j:Int)).toNat else 0)=d→j≤1048578 →
  Ev (fun f=>cubitref25_Table.l5 f R W (xs++List.replicate d 32) (i:Int) ((k+1:Nat):Int)) r→xs.length+d≤300000000000→Ev (fun f=>cubitref25_Table.l7 f R W xs (i:Int) (k:Int) (j:Int)) r
 | 0,j,xs,hx,hd,hj,h,hl=>by
  have hh:=hc i
  have hq:=hW k
  refine Ev.step (f:=fun f=>cubitref25_Table.l5 f R W xs (i:Int) ((k+1:Nat):Int)) (fun f => ?_) (by rw [List.replicate_zero,List.append_nil] at h; exact h)
  simp only [cubitref25_Table.l7]
  rw [rdl,wr1 (k:=k) (by omega),if_pos (by omega),if_pos (by omega)]
  have e1:wrap64 (rd W (k:Int)+2)=rd W (k:Int)+2:=by unfold wrap64; omega
  have e2:wrap64 (((gd R i).length:Int)-1)=((gd R i).length:Int)-1:=by unfold wrap64; omega
  rw [e1,e2]
  by_cases hlast:(k:Int)<((gd R i).length:Int)-1
  ·rw [if_pos hlast] at hd
   rw [if_neg (by omega)]
  ·rw [if_pos (show (0:Int)≤i by omega),if_pos (show (i:Int)<R.length by omega),if_neg hlast]
   split<;>rfl
 | d+1,j,xs,hx,hd,hj,h,hl=>by
  have hh:=hc i
  have hq:=hW k
  have hlast:(k:Int)<((gd R i).length:Int)-1:=by
   by_cases hlast:(k:Int)<((gd R i).length:Int)-1
   ·exact hlast
   ·rw [if_neg hlast] at hd; omega
  rw [if_pos hlast] at hd
  have h2:=ref_l7 hc hW hi hk hkW d (j+1) (xs ++ [32]) (by rw [List.length_append]; simp; omega) (by rw [if_pos hlast]; omega) (by omega) (by rw [List.append_assoc]; exact h) (by rw [List.length_append]; simp; omega)
  refine Ev.step (f:=fun f=>cubitref25_Table.l7 f R W (xs ++ [32]) (i:Int) (k:Int) ((j+1:Nat):Int)) (fun f => ?_) h2
  simp only [cubitref25_Table.l7]
  have e1:wrap64 (rd W (k:Int)+2)=rd W (k:Int)+2:=by unfold wrap64; omega
  have e2:wrap64 (((gd R i).length:Int)-1)=((gd R i).length:Int)-1:=by unfold wrap64; omega
  rw [rdl,wr1 (k:=j) (by omega),e1,e2,if_pos (by omega),if_pos (by omega),if_pos (by omega),if_pos (by omega),if_pos (by omega),if_pos hlast,if_pos (by omega)]
theorem ref_l6 {R:List (List ByteArray)} (hz:∀ i k,(ce R i k).size≤1048576) {W xs:List Int} {i k:Nat} (hi:i<R.length) (hk:k<(gd R i).length) (hx:xs.length≤300000000000) {r:ByteArray×Int} (hbad:¬ okc (ce R i k)→r=(⟨#[]⟩,3)) (hgo:okc (ce R i k)→Ev (fun f=>cubitref25_Table.l7 f R W (xs++bytesOf (ce R i k)) (i:Int) (k:Int) ((ce R i k).size:Int)) r):∀ (d j:Nat),(ce R i k).size-j=d→j≤(ce R i k).size→(∀ q:Nat,q<j→32≤bt (ce R i k) (q:Int)) →
  Ev (fun f=>cubitref25_Table.l6 f R W xs (i:Int) (k:Int) (j:Int)) r
 | 0,j,hd,hj,hq=>by
  have hs:=hz i k
  obtain rfl:j=(ce R i k).size:=by omega
  refine Ev.step (f:=fun f=>cubitref25_Table.l7 f R W (xs++bytesOf (ce R i k)) (i:Int) (k:Int) ((ce R i k).size:Int)) (fun f => ?_) (hgo hq)
  simp only [cubitref25_Table.l6]
  rw [rdl,rdc,if_pos (by omega),if_pos (by omega),if_pos (by omega),if_pos (by omega),if_neg (by omega),if_pos (by omega)]
 | d+1,j,hd,hj,hq=>by
  have hs:=hz i k
  by_cases hb:bt (ce R i k) (j:Int)<32
  ·have hr:=hbad (fun h=>by have:=h j (by omega); omega)
   refine Ev.step (f:=fun _=>some r) (fun f => ?_) (Ev.now _)
   simp only [cubitref25_Table.l6]
   rw [rdl,rdc,if_pos (by omega),if_pos (by omega),if_pos (by omega),if_pos (by omega),if_pos (by omega),if_pos (by omega),if_pos hb,hr]
  ·have h2:=ref_l6 hz hi hk hx hbad hgo d (j+1) (by omega) (by omega) (fun q h=>by
    by_cases e:q=j
    ·rw [e]; omega
    ·exact hq q (by omega))
   refine Ev.step (f:=fun f=>cubitref25_Table.l6 f R W xs (i:Int) (k:Int) ((j+1:Nat):Int)) (fun f => ?_) h2
   simp only [cubitref25_Table.l6]
   rw [rdl,rdc,if_pos (by omega),if_pos (by omega),if_pos (by omega),if_pos (by omega),if_pos (by omega),if_pos (by omega),if_neg hb,wr1 (by omega)]
theorem ref_l5 {R:List (List ByteArray)} (hn:R.length≤1000) (hc:∀ i,(gd R i).length≤100) (hz:∀ i k,(ce R i k).size≤1048576) {W:List Int} (hW:∀ q:Nat,0≤rd W (q:Int)∧rd W (q:Int)≤1048576) (hs:∀ r q:Nat,q<(gd R r).length→((ce R r q).size:Int)≤rd W (q:Int)) (hwl:∀ r,r<R.length→(gd R r).length≤W.length) {i:Nat} (hi:i<R.length) {r:ByteArray×Int} (hbad:¬ okR R→r=(⟨#[]⟩,3)) (hgo:(∀ q:Nat,q<(gd R i).length→okc (ce R i q))→Ev (fun f=>cubitref25_Table.l4 f R W (ttx R W (i+1)) ((i+1:Nat):Int)) r):∀ (d k:Nat),(gd R i).length-k=d→k≤(gd R i).length→(∀ q:Nat,q<k→okc (ce R i q)) →
  Ev (fun f=>cubitref25_Table.l5 f R W (ttx R W i++ctx R W i k) (i:Int) (k:Int)) r
 | 0,k,hd,hk,hq=>by
  have hh:=hc i
  obtain rfl:k=(gd R i).length:=by omega
  have h1:=ttx_len hs i
  have h2:=ctx_len (hs i) (gd R i).length (Nat.le_refl _)
  have h3:=tot_le hz hW hc i
  have h4:=cln_le hz hW i (gd R i).length
  have hlen:(ttx R W i++ctx R W i (gd R i).length).length<140737488355328:=by rw [List.length_append]; omega
  refine Ev.step (f:=fun f=>cubitref25_Table.l4 f R W (ttx R W (i+1)) ((i+1:Nat):Int)) (fun f => ?_) (hgo hq)
  simp only [cubitref25_Table.l5]
  rw [rdl,if_pos (by omega),if_pos (by omega),if_neg (by omega),if_pos hlen,wr1 (by omega)]
  rfl
 | d+1,k,hd,hk,hq=>by
  have hh:=hc i
  have h1:=ttx_len hs i
  have h2:=ctx_len (hs i) k (by omega)
  have h3:=tot_le hz hW hc i
  have h4:=cln_le hz hW i k
  have h5:=hz i k
  have h6:=hW k
  have h7:=hs i k (by omega)
  have hlen:(ttx R W i++ctx R W i k).length≤200000000000:=by rw [List.length_append]; omega
  refine Ev.step (f:=fun f=>cubitref25_Table.l6 f R W (ttx R W i++ctx R W i k) (i:Int) (k:Int) ((0:Nat):Int)) (fun f => ?_) (ref_l6 hz hi (by omega) (by omega) (fun h=>hbad (fun hall=>h (hall i k hi (by omega)))) (fun hok => ?_) _ 0 rfl (Nat.zero_le _) (fun q h=>absurd h (Nat.not_lt_zero _)))
  ·simp only [cubitref25_Table.l5]
   rw [rdl,if_pos (by omega),if_pos (by omega),if_pos (by omega)]
   rfl
  ·refine ref_l7 hc hW hi (by omega) (by have:=hwl i hi; omega) _ _ _ (by rw [List.length_append,bytesOf_length]; omega) rfl (by omega) ?_ (by
    rw [List.length_append,bytesOf_length]
    split<;>omega)
   have h8:=ref_l5 hn hc hz hW hs hwl hi hbad hgo d (k+1) (by omega) (by omega) (fun q h=>by
    by_cases e:q=k
    ·rw [e]; exact hok
    ·exact hq q (by omega))
   have e:ttx R W i++ctx R W i (k+1)=ttx R W i++ctx R W i k++bytesOf (ce R i k)++List.replicate (if (k:Int)<((gd R i).length:Int)-1 then (rd W (k:Int)+2-((ce R i k).size:Int)).toNat else 0) 32:=by
    conv=>lhs; unfold ctx
    rw [←List.append_assoc,←List.append_assoc]
    congr 1
    split<;>rfl
   rw [←e]
   exact h8
theorem ref_l4 {R:List (List ByteArray)} (hn:R.length≤1000) (hc:∀ i,(gd R i).length≤100) (hz:∀ i k,(ce R i k).size≤1048576) {W:List Int} (hW:∀ q:Nat,0≤rd W (q:Int)∧rd W (q:Int)≤1048576) (hs:∀ r q:Nat,q<(gd R r).length→((ce R r q).size:Int)≤rd W (q:Int)) (hwl:∀ r,r<R.length→(gd R r).length≤W.length) {r:ByteArray×Int} (hbad:¬ okR R→r=(⟨#[]⟩,3)) (hok:okR R→r=(strOfNums (ttx R W R.length),0)):∀ (d i:Nat),R.length-i=d→i≤R.length→(∀ q k:Nat,q<i→k<(gd R q).length→okc (ce R q k)) →
  Ev (fun f=>cubitref25_Table.l4 f R W (ttx R W i) (i:Int)) r
 | 0,i,hd,hi,hq=>by
  obtain rfl:i=R.length:=by omega
  refine Ev.step (f:=fun _=>some r) (fun f => ?_) (Ev.now _)
  simp only [cubitref25_Table.l4]
  rw [if_neg (by omega),hok hq]
 | d+1,i,hd,hi,hq=>by
  refine Ev.step (f:=fun f=>cubitref25_Table.l5 f R W (ttx R W i++ctx R W i 0) (i:Int) ((0:Nat):Int)) (fun f => ?_) (ref_l5 hn hc hz hW hs hwl (by omega) hbad (fun hrow=>ref_l4 hn hc hz hW hs hwl hbad hok d (i+1) (by omega) (by omega) (fun q k h1 h2 => ?_)) _ 0 rfl (Nat.zero_le _) (fun q h=>absurd h (Nat.not_lt_zero _)))
  ·simp only [cubitref25_Table.l4]
   rw [if_pos (by omega)]
   show _=cubitref25_Table.l5 f R W (ttx R W i ++ []) _ _
   rw [List.append_nil]; rfl
  ·by_cases e:q=i
   ·subst e; exact hrow k h2
   ·exact hq q k (by omega) h2
theorem ref_l3 {R:List (List ByteArray)} (hn:R.length≤1000) (hc:∀ i,(gd R i).length≤100) (hz:∀ i k,(ce R i k).size≤1048576) {W:List Int} (hW:∀ q:Nat,0≤rd W (q:Int)∧rd W (q:Int)≤1048576) (hwl:∀ r,r<R.length→(gd R r).length≤W.length) {i:Nat} (hi:i<R.length) {r:ByteArray×Int} (hbig:65536<tot R W (i+1)→r=(⟨#[]⟩,4)) (hgo:¬ 65536<tot R W (i+1)→Ev (fun f=>cubitref25_Table.l2 f R W (tot R W (i+1)) ((i+1:Nat):Int)) r):∀ (d k:Nat),(gd R i).length-k=d→k≤(gd R i).length →
  Ev (fun f=>cubitref25_Table.l3 f R W (tot R W i+1+cln R W i k) (i:Int) (k:Int)) r
 | 0,k,hd,hk=>by
  have hh:=hc i
  obtain rfl:k=(gd R i).length:=by omega
  have e:tot R W i+1+cln R W i (gd R i).length=tot R W (i+1):=by show _=tot R W i+cln R W i (gd R i).length+1; omega
  rw [e]
  by_cases hb:65536<tot R W (i+1)
  ·refine Ev.step (f:=fun _=>some r) (fun f => ?_) (Ev.now _)
   simp only [cubitref25_Table.l3]
   rw [rdl,if_pos (by omega),if_pos (by omega),if_neg (by omega),if_pos hb,hbig hb]
  ·refine Ev.step (f:=fun f=>cubitref25_Table.l2 f R W (tot R W (i+1)) ((i+1:Nat):Int)) (fun f => ?_) (hgo hb)
   simp only [cubitref25_Table.l3]
   rw [rdl,if_pos (by omega),if_pos (by omega),if_neg (by omega),if_neg hb,wr1 (by omega)]
 | d+1,k,hd,hk=>by
  have hh:=hc i
  have h3:=tot_le hz hW hc i
  have h4:=cln_le hz hW i k
  have h5:=hz i k
  have h6:=hW k
  have h7:=hwl i hi
  have h2:=ref_l3 hn hc hz hW hwl hi hbig hgo d (k+1) (by omega) (by omega)
  refine Ev.step (f:=fun f=>cubitref25_Table.l3 f R W (tot R W i+1+cln R W i (k+1)) (i:Int) ((k+1:Nat):Int)) (fun f => ?_) h2
  have e2:wrap64 (((gd R i).length:Int)-1)=((gd R i).length:Int)-1:=by unfold wrap64; omega
  simp only [cubitref25_Table.l3]
  rw [rdl,rdc,e2,wr1 (by omega),if_pos (by omega),if_pos (by omega),if_pos (by omega)]
  by_cases hlast:(k:Int)<((gd R i).length:Int)-1
  ·have e3:cln R W i (k+1)=cln R W i k+(rd W (k:Int)+2):=by conv=>lhs; unfold cln; rw [if_pos hlast]
   have e4:wrap64 (wrap64 (tot R W i+1+cln R W i k+rd W (k:Int))+2)=tot R W i+1+cln R W i (k+1):=by rw [e3]; unfold wrap64; omega
   rw [if_pos hlast,if_pos (by omega),if_pos (by omega),e4]
  ·have e3:cln R W i (k+1)=cln R W i k+(ce R i k).size:=by conv=>lhs; unfold cln; rw [if_neg hlast]
   have e4:wrap64 (tot R W i+1+cln R W i k+((ce R i k).size:Int))=tot R W i+1+cln R W i (k+1):=by rw [e3]; unfold wrap64; omega
   rw [if_neg hlast,if_pos (by omega),e4]
theorem ref_l2 {R:List (List ByteArray)} (hn:R.length≤1000) (hc:∀ i,(gd R i).length≤100) (hz:∀ i k,(ce R i k).size≤1048576) {W:List Int} (hW:∀ q:Nat,0≤rd W (q:Int)∧rd W (q:Int)≤1048576) (hwl:∀ r,r<R.length→(gd R r).length≤W.length) {r:ByteArray×Int} (hbig:65536<tot R W R.length→r=(⟨#[]⟩,4)) (hgo:¬ 65536<tot R W R.length→Ev (fun f=>cubitref25_Table.l4 f R W (ttx R W 0) ((0:Nat):Int)) r):∀ (d i:Nat),R.length-i=d→i≤R.length→¬ 65536<tot R W i →
  Ev (fun f=>cubitref25_Table.l2 f R W (tot R W i) (i:Int)) r
 | 0,i,hd,hi,hs=>by
  obtain rfl:i=R.length:=by omega
  refine Ev.step (f:=fun f=>cubitref25_Table.l4 f R W (ttx R W 0) ((0:Nat):Int)) (fun f => ?_) (hgo hs)
  simp only [cubitref25_Table.l2]
  rw [if_neg (by omega)]; rfl
 | d+1,i,hd,hi,hs=>by
  have h3:=tot_le hz hW hc i
  have h2:=ref_l3 hn hc hz hW hwl (i:=i) (r:=r) (by omega) (fun h=>hbig (by
   have h4:=tot_mono hz hW (i+1) (R.length-(i+1))
   rw [show i+1+(R.length-(i+1))=R.length by omega] at h4
   omega)) (fun h=>ref_l2 hn hc hz hW hwl hbig hgo d (i+1) (by omega) (by omega) h) _ 0 rfl (Nat.zero_le _)
  refine Ev.step (f:=fun f=>cubitref25_Table.l3 f R W (tot R W i+1+cln R W i 0) (i:Int) ((0:Nat):Int)) (fun f => ?_) h2
  have e:wrap64 (tot R W i+1)=tot R W i+1+cln R W i 0:=by show _=tot R W i+1+0; unfold wrap64; omega
  simp only [cubitref25_Table.l2]
  rw [if_pos (by omega),e]; rfl
theorem step_gt {W:List Int} {k:Nat} {s:ByteArray} (h:(s.size:Int)>rd (wGrow W k) (k:Int)):wStep W k s=(wGrow W k).set k (s.size:Int):=by
 unfold wStep
 congr 1
 omega
theorem step_le {W:List Int} {k:Nat} {s:ByteArray} (hk:k<(wGrow W k).length) (h:¬ (s.size:Int)>rd (wGrow W k) (k:Int)):wStep W k s=wGrow W k:=by
 unfold wStep
 rw [Int.max_eq_left (by omega),rd_nat,List.getD_eq_getElem?_getD,List.getElem?_eq_getElem hk]
 exact List.set_getElem_self hk
theorem ref_l1 {R:List (List ByteArray)} {i:Nat} (hn:R.length≤1000) (hi:i<R.length) (hci:(gd R i).length≤100) {r:ByteArray×Int} (hgo:Ev (fun f=>cubitref25_Table.l0 f R (wAll R (i+1)) ((i+1:Nat):Int)) r):∀ (d k:Nat),(gd R i).length-k=d→k≤(gd R i).length →
  Ev (fun f=>cubitref25_Table.l1 f R (wid R i k) (i:Int) (k:Int)) r
 | 0,k,hd,hk=>by
  obtain rfl:k=(gd R i).length:=by omega
  refine Ev.step (f:=fun f=>cubitref25_Table.l0 f R (wAll R (i+1)) ((i+1:Nat):Int)) (fun f => ?_) hgo
  simp only [cubitref25_Table.l1]
  rw [rdl,if_pos (by omega),if_pos (by omega),if_neg (by omega),wr1 (by omega)]
  rfl
 | d+1,k,hd,hk=>by
  have h2:=ref_l1 hn hi hci hgo d (k+1) (by omega) (by omega)
  rw [wid_succ] at h2
  have hl:=wRow_len R (wAll R i) i k
  have hg:=wGrow_len (wid R i k) k hl
  refine Ev.step (f:=fun f=>cubitref25_Table.l1 f R (wStep (wid R i k) k (ce R i k)) (i:Int) ((k+1:Nat):Int)) (fun f => ?_) h2
  simp only [cubitref25_Table.l1]
  rw [rdl,rdc,if_pos (by omega),if_pos (by omega),if_pos (by omega),wr1 (by omega)]
  replace hl:k≤(wid R i k).length:=hl
  generalize wid R i k=W at *
  by_cases hk2:k=W.length
  ·have e:wGrow W k=W ++ [0]:=if_pos hk2
   rw [if_pos (by omega),if_pos (by omega),Option.bind_some,←e,if_pos (by omega),if_pos (by omega),Int.toNat_natCast]
   by_cases hc:((ce R i k).size:Int)>rd (wGrow W k) (k:Int)
   ·rw [if_pos hc,step_gt hc]
   ·rw [if_neg hc,step_le hg.1 hc]
  ·have e:wGrow W k=W:=if_neg hk2
   rw [if_neg (by omega),if_pos (by omega),if_pos (by omega),Int.toNat_natCast]
   by_cases hc:((ce R i k).size:Int)>rd W (k:Int)
   ·rw [if_pos hc,step_gt (by rw [e]; exact hc),e]
   ·rw [if_neg hc,step_le hg.1 (by rw [e]; exact hc),e]
theorem ref_l0 {R:List (List ByteArray)} (hn:R.length≤1000) {r:ByteArray×Int} (hmany:¬ fewC R→r=(⟨#[]⟩,4)) (hgo:fewC R→Ev (fun f=>cubitref25_Table.l2 f R (wAll R R.length) 0 0) r):∀ (d i:Nat),R.length-i=d→i≤R.length→(∀ q:Nat,q<i→(gd R q).length≤100) →
  Ev (fun f=>cubitref25_Table.l0 f R (wAll R i) (i:Int)) r
 | 0,i,hd,hi,hq=>by
  obtain rfl:i=R.length:=by omega
  refine Ev.step (f:=fun f=>cubitref25_Table.l2 f R (wAll R R.length) 0 0) (fun f => ?_) (hgo hq)
  simp only [cubitref25_Table.l0]
  rw [if_neg (by omega)]
 | d+1,i,hd,hi,hq=>by
  by_cases hb:100<(gd R i).length
  ·refine Ev.step (f:=fun _=>some r) (fun f => ?_) (Ev.now _)
   simp only [cubitref25_Table.l0]
   rw [rdl,if_pos (by omega),if_pos (by omega),if_pos (by omega),hmany (fun h=>by have:=h i (by omega); omega)]
  ·refine Ev.step (f:=fun f=>cubitref25_Table.l1 f R (wid R i 0) (i:Int) ((0:Nat):Int)) (fun f => ?_) (ref_l1 hn (by omega) (by omega) (ref_l0 hn hmany hgo d (i+1) (by omega) (by omega) (fun q h=>by
    by_cases e:q=i
    ·rw [e]; omega
    ·exact hq q (by omega))) _ 0 rfl (Nat.zero_le _))
   simp only [cubitref25_Table.l0]
   rw [rdl,if_pos (by omega),if_pos (by omega),if_neg (by omega)]
   rfl
theorem ref_table {R:List (List ByteArray)} (hz:∀ i k,(ce R i k).size≤1048576):Ev (fun f=>cubitref25_Table.f f R) (tabF R):=by
 by_cases hn:1000<R.length
 ·have hT:tabF R=(⟨#[]⟩,4):=if_pos (Or.inl hn)
  refine Ev.congr (f:=fun _=>some (tabF R)) (fun k => ?_) (Ev.now _)
  unfold cubitref25_Table.f
  rw [if_pos (by omega),hT]
 ·refine Ev.congr (f:=fun f=>cubitref25_Table.l0 f R (wAll R 0) ((0:Nat):Int)) (fun k => ?_) (ref_l0 (r:=tabF R) (by omega) (fun h=>if_pos (Or.inr h)) (fun hfew => ?_) _ 0 rfl (Nat.zero_le _) (fun q h=>absurd h (Nat.not_lt_zero _)))
  ·unfold cubitref25_Table.f
   rw [if_neg (by omega)]; rfl
  ·have hc:=few_all hfew
   have hW:=(wAll_rd hz R.length).1
   have hs:=size_all hz
   have hwl:=fun r h=>wAll_ge R R.length r h
   have hT:tabF R=if 65536<tot R (wAll R R.length) R.length then (⟨#[]⟩,4) else if ¬ okR R then (⟨#[]⟩,3) else (strOfNums (ttx R (wAll R R.length) R.length),0):=if_neg (by rintro (h|h); omega; exact h hfew)
   generalize wAll R R.length=W at *
   refine ref_l2 (by omega) hc hz hW hwl (r:=tabF R) (fun h=>by rw [hT,if_pos h]) (fun h => ?_) _ 0 rfl (Nat.zero_le _) (by show ¬ (65536:Int)<0; omega)
   rw [if_neg h] at hT
   exact ref_l4 (by omega) hc hz hW hs hwl (fun h=>by rw [hT,if_pos h]) (fun h=>by rw [hT,if_neg (fun k=>k h)]) _ 0 rfl (Nat.zero_le _) (fun q k h=>absurd h (Nat.not_lt_zero _))
end Go.Proofs.YtglaeambknhjlaaGreatDoor.Q
end
section
namespace Go.Proofs.YtglaeambknhjlaaGreatDoor.Q
open Go.RowKit Go.Proofs.YtglaeambknhjlaaGreatDoorW.PrintWords Go.Proofs.YtglaeambknhjlaaGreatDoorW.PrintLast Go.Proofs.YtglaeambknhjlaaGreatDoorW.PrintMore
attribute [local go_sem] max2_int min2_int max_two min_two max_three min_three max_four min_four
noncomputable def cubitref01_SameTexts.l0:Nat→List ByteArray→List ByteArray→Int→Option (Bool)
 | 0,_,_,_=>none
 | k+1,x0,x1,x5=>if x5<(x0.length:Int) then (if 0≤x5 then (if x5<(x1.length:Int) then (if (rdOf ByteArray.empty x0 x5).toList=(rdOf ByteArray.empty x1 x5).toList then (cubitref01_SameTexts.l0 k x0 x1 (wrap64 (x5+1))) else (some false)) else (none)) else (none)) else (some true)
noncomputable def cubitref01_SameTexts.f (k:Nat) (l0:List ByteArray) (l1:List ByteArray):Option (Bool):=if (l0.length:Int)=(l1.length:Int) then (cubitref01_SameTexts.l0 k l0 l1 0) else (some false)
theorem cubitref01_SameTexts.calls (k : Nat) (A0 : Option Addr) (c0 : Nat) (l0 : List ByteArray) (A1 : Option Addr) (c1 : Nat) (l1 : List ByteArray) (r : Bool) (w : World) (hr0 : Kd.C Kd.string w A0 l0.length l0) (hc0 : l0.length ≤ c0) (hr1 : Kd.C Kd.string w A1 l1.length l1) (hc1 : l1.length ≤ c1) (h : cubitref01_SameTexts.f k l0 l1 = some r) :
  Calls Tryz.prog 100 #[.slice A0 l0.length c0,.slice A1 l1.length c1] w fun e w'=>e = .returned (.bool r)∧Drawn0 w w':=by
 have HR0:=Aside0.mk hr0
 have HC0:=Aside0.mk hc0
 clear hr0 hc0
 have HR1:=Aside0.mk hr1
 have HC1:=Aside0.mk hc1
 clear hr1 hc1
 have H:(if (l0.length:Int)=(l1.length:Int) then (cubitref01_SameTexts.l0 k l0 l1 0) else (some false))=some r:=h
 clear h
 by_cases c3:(l0.length:Int)=(l1.length:Int)
 ·rw [if_pos c3] at H
  have c3b0:((l0.length:Int) == (l1.length:Int))=true:=beq_iff_eq.mpr c3
  have c3b1:((l0.length:Int) != (l1.length:Int))=false:=bne_eq_false_iff_eq.mpr c3
  have c3b2:(l0.length == l1.length)=true:=by first|simpa using c3|(simp at c3 ⊢; omega)
  clear c3
  have H':=Aside0.mk H
  clear H
  go_enter Tryz.func100,Tryz.ntmps100
  go_wp2
  repeat (go_quiet (fail); try go_wp2)
  go_loopg [5] k (fun kq v5 w'=>∃ (x5_1:Int),v5 = .int .i64 x5_1∧Aside0 (cubitref01_SameTexts.l0 kq l0 l1 x5_1=some r)∧Aside0 (kq≤k)∧Drawn0 w w')
  case atStart=>exact ⟨(0),(by first|rfl|(simp; done)|(simp [*]; done)),H',⟨Nat.le_refl _⟩,by repeat (first|exact Drawn0.refl _|apply Drawn0.step)⟩
  case round =>
   clear H'
   try clear c1
   try clear p2
   try clear c3
   try clear c3b0
   try clear c3b1
   try clear c3b2
   obtain ⟨x5_1,rfl,HA,HK1,⟨m1,rfl⟩⟩:=hrel
   cases gk with
   | zero=>exact absurd HA.out (by simp [cubitref01_SameTexts.l0])
   | succ k1 =>
    have H:=HA.out
    clear HA
    simp only [cubitref01_SameTexts.l0] at H
    by_cases c4:x5_1<(l0.length:Int)
    ·rw [if_pos c4] at H
     have c4b0:decide (x5_1<(l0.length:Int))=true:=decide_eq_true c4
     clear c4
     by_cases c5:0≤x5_1
     ·rw [if_pos c5] at H
      have c5b0:decide (0≤x5_1)=true:=decide_eq_true c5
      clear c5
      by_cases c6:x5_1<(l1.length:Int)
      ·rw [if_pos c6] at H
       have c6b0:decide (x5_1<(l1.length:Int))=true:=decide_eq_true c6
       clear c6
       by_cases c7:(rdOf ByteArray.empty l0 x5_1).toList=(rdOf ByteArray.empty l1 x5_1).toList
       ·rw [if_pos c7] at H
        have c7b0:((rdOf ByteArray.empty l0 x5_1).toList == (rdOf ByteArray.empty l1 x5_1).toList)=true:=beq_iff_eq.mpr c7
        have c7b1:((rdOf ByteArray.empty l0 x5_1).toList != (rdOf ByteArray.empty l1 x5_1).toList)=false:=bne_eq_false_iff_eq.mpr c7
        clear c7
        have H':=Aside0.mk H
        clear H
        have p510:0≤(x5_1:Int):=of_decide_eq_true (by first|(with_reducible assumption)|assumption)
        have q510:x5_1<(l0.length:Int):=of_decide_eq_true (by first|(with_reducible assumption)|assumption)
        obtain ⟨ad510,e510,hx510_0⟩:=Kd.at_string HR0.out x5_1 p510 q510
        cases e510
        replace p510:=eq_true p510
        replace q510:=eq_true q510
        have p511:0≤(x5_1:Int):=of_decide_eq_true (by first|(with_reducible assumption)|assumption)
        have q511:x5_1<(l1.length:Int):=of_decide_eq_true (by first|(with_reducible assumption)|assumption)
        obtain ⟨ad511,e511,hx511_0⟩:=Kd.at_string HR1.out x5_1 p511 q511
        cases e511
        replace p511:=eq_true p511
        replace q511:=eq_true q511
        go_wp2
        repeat (go_quiet (fail); try go_wp2)
        go_roundg k1
        case measure=>have:=HK1.out; omega
        case rel=>exact ⟨(wrap64 (x5_1+1)),(by first|rfl|(simp; done)|(simp [*]; done)),H',⟨by have:=HK1.out; omega⟩,by repeat (first|exact Drawn0.refl _|apply Drawn0.step)⟩
       ·rw [if_neg c7] at H
        have c7b0:((rdOf ByteArray.empty l0 x5_1).toList == (rdOf ByteArray.empty l1 x5_1).toList)=false:=beq_eq_false_iff_ne.mpr c7
        have c7b1:((rdOf ByteArray.empty l0 x5_1).toList != (rdOf ByteArray.empty l1 x5_1).toList)=true:=bne_iff_ne.mpr c7
        obtain rfl:=Option.some.inj H
        have p510:0≤(x5_1:Int):=of_decide_eq_true (by first|(with_reducible assumption)|assumption)
        have q510:x5_1<(l0.length:Int):=of_decide_eq_true (by first|(with_reducible assumption)|assumption)
        obtain ⟨ad510,e510,hx510_0⟩:=Kd.at_string HR0.out x5_1 p510 q510
        cases e510
        replace p510:=eq_true p510
        replace q510:=eq_true q510
        have p511:0≤(x5_1:Int):=of_decide_eq_true (by first|(with_reducible assumption)|assumption)
        have q511:x5_1<(l1.length:Int):=of_decide_eq_true (by first|(with_reducible assumption)|assumption)
        obtain ⟨ad511,e511,hx511_0⟩:=Kd.at_string HR1.out x5_1 p511 q511
        cases e511
        replace p511:=eq_true p511
        replace q511:=eq_true q511
        go_wp2
        repeat (go_quiet (fail); try go_wp2)
        go_ret
        exact ⟨by first|rfl|(simp; done)|(simp [*]; done),by repeat (first|exact Drawn0.refl _|apply Drawn0.step)⟩
      ·rw [if_neg c6] at H
       exact absurd H (by simp)
     ·rw [if_neg c5] at H
      exact absurd H (by simp)
    ·rw [if_neg c4] at H
     have c4b0:decide (x5_1<(l0.length:Int))=false:=decide_eq_false c4
     clear c4
     obtain rfl:=Option.some.inj H
     go_wp2
     repeat (go_quiet (fail); try go_wp2)
     go_ret
     exact ⟨by first|rfl|(simp; done)|(simp [*]; done),by repeat (first|exact Drawn0.refl _|apply Drawn0.step)⟩
 ·rw [if_neg c3] at H
  have c3b0:((l0.length:Int) == (l1.length:Int))=false:=beq_eq_false_iff_ne.mpr c3
  have c3b1:((l0.length:Int) != (l1.length:Int))=true:=bne_iff_ne.mpr c3
  have c3b2:(l0.length == l1.length)=false:=by first|simpa using c3|(simp at c3 ⊢; omega)
  obtain rfl:=Option.some.inj H
  go_enter Tryz.func100,Tryz.ntmps100
  go_wp2
  repeat (go_quiet (fail); try go_wp2)
  go_ret
  exact ⟨by first|rfl|(simp; done)|(simp [*]; done),by repeat (first|exact Drawn0.refl _|apply Drawn0.step)⟩
end Go.Proofs.YtglaeambknhjlaaGreatDoor.Q
end
section
namespace Go.Proofs.YtglaeambknhjlaaGreatDoor.Q
open Go.RowKit Go.Proofs.YtglaeambknhjlaaGreatDoorW.PrintWords Go.Proofs.YtglaeambknhjlaaGreatDoorW.PrintLast Go.Proofs.YtglaeambknhjlaaGreatDoorW.PrintMore
def mark:ByteArray:=⟨#[52,51,50,49]⟩
theorem lent_calls (A0:Option Addr) (c0:Nat) (l0:List ByteArray) (w:World) (hr0:Kd.C Kd.string w A0 l0.length l0) (hc0:l0.length≤c0) (hl:l0.length≤1048576) :
  Calls Tryz.prog 25 #[.slice A0 l0.length c0] w fun e w'=>∃ g cap,e = .returned (.slice (some ⟨g,0,none⟩) l0.length cap)∧(l0 ++ [mark]).length≤cap∧Kd.R Kd.string 9 w' w.heap.size (fun _=>True) (.slice (some ⟨g,0,none⟩) (l0 ++ [mark]).length cap) (l0 ++ [mark])∧Below w.heap.size w w':=by
 have HR0:=Aside0.mk hr0
 have HC0:=Aside0.mk hc0
 have HL0:=Aside0.mk hl
 clear hr0 hc0 hl
 have HB:=Aside0.mk (Below.refl w.heap.size w)
 obtain ⟨y1,hy1⟩:∃ y_:List ByteArray,y_=(([]:List ByteArray)++l0):=⟨_,rfl⟩
 have N1:=Aside0.mk hy1
 clear hy1
 obtain ⟨y2,hy2⟩:∃ y_:List ByteArray,y_=(y1 ++ [(⟨#[52,51,50,49]⟩:ByteArray)]):=⟨_,rfl⟩
 have N2:=Aside0.mk hy2
 clear hy2
 have hl1:y1.length=l0.length:=by rw [N1.out,List.nil_append]
 have hl2:y2.length=l0.length+1:=by rw [N2.out,List.length_append,hl1]; rfl
 have L1:=Aside0.mk hl1
 have L2:=Aside0.mk hl2
 clear hl1 hl2
 have c4b1:decide (0≤(l0.length:Int))=true:=decide_eq_true (by omega)
 have c5b1:decide ((l0.length:Int)≤(y2.length:Int))=true:=decide_eq_true (by have:=L2.out; omega)
 go_enter Tryz.func25,Tryz.ntmps25
 go_wp2_with (first|((with_reducible refine gate_builtin (b:=.append) (xs:=#[.tmp 4,.tmp 5]) rfl ?_); at_builtin; refine Kd.R_append_rows Kd.string (w0:=w) w.heap.size rfl (.tmp 4) (.tmp 5) 34 9 (.string ⟨#[]⟩) 16 rfl Tryz.underlying34 info9 rfl (by decide) (by omega) (.slice none 0 0) ([]:List ByteArray) l0 _ _ _ (fun _=>True) (fun _=>False) rfl rfl ?aO ?aR (fun _ _ h=>h) (fun _ h=>h.elim) ?aF ?aB ?aS ?aL ?_; (case aR=>repeat (first|exact HR0.out|(with_reducible refine Kd.C_alloc ?_ _)|(with_reducible refine Kd.C_drewN ?_ _)|(with_reducible refine Kd.C_drew ?_))); (case aB=>exact (by repeat (first|(with_reducible first|exact HB.out|apply below_alloc|apply pw_below_drewN|apply below_drew1)|exact HB.out))); (case aF=>exact (fun _ _=>trivial)); (case aO=>exact ((Kd.R_nil _ _ _ _ (fun _=>True)))); (case aS=>exact (below_size (by repeat (first|(with_reducible first|exact HB.out|apply below_alloc|apply pw_below_drewN|apply below_drew1)|exact HB.out)))); (case aL=>have:=HL0.out; simp only [List.length_nil]; omega); intro v460 w6 ho hb hg hat; rw [←N1.out] at ho; have n0_:=Aside0.mk (hb); have n1_:=Aside0.mk (ho); clear HB; have HB:=n0_; have HO1:=n1_; clear n0_ n1_; clear ho hb hg hat)|((with_reducible refine gate_builtin (b:=.append) (xs:=#[.tmp 7,.tmp 8]) rfl ?_); at_builtin; refine Kd.R_append Kd.string (w0:=w) w.heap.size rfl (.tmp 7) (.tmp 8) 34 9 (.string ⟨#[]⟩) 16 rfl Tryz.underlying34 info9 rfl (by decide) (by omega) v460 y1 (⟨#[52,51,50,49]⟩:ByteArray) [.string (⟨#[52,51,50,49]⟩:ByteArray)] (fun _=>True) (fun _=>False) rfl rfl ?aP (fun _ hk=>hk.elim) ?aF ?aO ?aB ?aS ?aL ?_; (case aP=>exact rfl); (case aB=>exact (by repeat (first|(with_reducible first|exact HB.out|apply below_alloc|apply pw_below_drewN|apply below_drew1)|exact HB.out))); (case aF=>exact (fun _ _=>trivial)); (case aO=>exact (by (with_reducible repeat (first|apply Kd.R_alloc|apply Kd.R_drewN|apply Kd.R_drew)); exact HO1.out)); (case aS=>exact (below_size (by repeat (first|(with_reducible first|exact HB.out|apply below_alloc|apply pw_below_drewN|apply below_drew1)|exact HB.out)))); (case aL=>have:=L1.out; have:=HL0.out; omega); intro v463 w7 ho hb hg hat; rw [←N2.out] at ho; have n0_:=Aside0.mk (hb); have n1_:=Aside0.mk (ho); clear HB; clear HO1; have HB:=n0_; have HO2:=n1_; clear n0_ n1_; clear ho hb hg hat; obtain ⟨g8,co8,eo8,_,_,_⟩:=Kd.R_form HO2.out (by have:=L2.out; omega); subst eo8; have q9:((l0.length:Int):Int)≤((y2.length:Int):Int):=of_decide_eq_true (by first|(with_reducible assumption)|assumption); obtain ⟨i09,hi09,_,hsz9,_⟩:=info_parts info9; have hcut9:=cut_to (P:=Tryz.prog) 34 9 .i64 Tryz.underlying34 hi09 (some ⟨g8,0,none⟩) y2.length co8 (l0.length:Int) (of_decide_eq_true (by first|(with_reducible assumption)|assumption)) q9 (Kd.R_reads' HO2.out).2.1; rw [Int.toNat_natCast] at hcut9; clear hi09 hsz9 q9))
 go_ret
 have e2:y2=l0 ++ [mark]:=by rw [N2.out,N1.out]; rfl
 refine ⟨g8,co8,rfl,?_,?_,by repeat (first|(with_reducible first|exact HB.out|apply below_alloc|apply pw_below_drewN|apply below_drew1)|exact HB.out)⟩
 ·have h:=(Kd.R_reads' HO2.out).2.1
  rw [e2] at h
  exact h
 ·rw [←e2]
  (with_reducible repeat (first|apply Kd.R_alloc|apply Kd.R_drewN|apply Kd.R_drew))
  exact HO2.out
theorem same_loop (l:List ByteArray) (hl:l.length≤1048576):∀ (d i:Nat),l.length-i=d→i≤l.length→Ev (fun k=>cubitref01_SameTexts.l0 k l l (i:Int)) true:=by
 intro d
 induction d with
 | zero =>
  intro i h0 h1
  refine Ev.step (f:=fun _=>some true) (fun k => ?_) (Ev.now _)
  simp only [cubitref01_SameTexts.l0]
  rw [if_neg (by omega)]
 | succ d ih =>
  intro i h0 h1
  refine Ev.step (f:=fun k=>cubitref01_SameTexts.l0 k l l ((i+1:Nat):Int)) (fun k => ?_) (ih (i+1) (by omega) (by omega))
  simp only [cubitref01_SameTexts.l0]
  rw [if_pos (by omega),if_pos (by omega),if_pos (by omega),if_pos trivial]
  congr 1
  unfold wrap64; omega
theorem same_self (l:List ByteArray) (hl:l.length≤1048576):Ev (fun k=>cubitref01_SameTexts.f k l l) true:=by
 refine Ev.congr (fun k => ?_) (same_loop l hl l.length 0 (by omega) (by omega))
 unfold cubitref01_SameTexts.f
 rw [if_pos rfl]; rfl
theorem kept_calls (g cap c1:Nat) (A1:Option Addr) (l:List ByteArray) (w:World) (hC:Kd.C Kd.string w (some ⟨g,0,none⟩) l.length l) (hM:w.cell? ⟨g,l.length,none⟩=some (.string mark)) (hcap:l.length+1≤cap) (h1:Kd.C Kd.string w A1 l.length l) (hc1:l.length≤c1) (hl:l.length≤1048576) :
  Calls Tryz.prog 28 #[.slice (some ⟨g,0,none⟩) l.length cap,.slice A1 l.length c1] w fun e w'=>e = .returned (.bool true)∧Below w.heap.size w w':=by
 obtain ⟨k,hk⟩:=(same_self l hl).rounds
 have HS:=Lib.hid (cubitref01_SameTexts.calls k _ cap l _ c1 l true w hC (by omega) h1 hc1 hk)
 obtain ⟨i0,hi,_,_,_⟩:=info_parts info9
 have hw:wrap64 ((l.length:Int)+1)=((l.length+1:Nat):Int):=by unfold wrap64; omega
 have HCAP:=Lib.hid hcap
 have HM:=Lib.hid hM
 have hlt:(l.length:Int)<((l.length+1:Nat):Int):=by omega
 clear hC hM hcap h1 hc1 hi hk
 go_enter Tryz.func28,Tryz.ntmps28
 go_wp2_with fail
 refine HS.out.mono ?_
 rintro e w1 ⟨rfl,nd,rfl⟩
 have hcell:(w.drewN nd).cell? ⟨g,l.length,none⟩=some (.string mark):=(World.cell?_of_block (a:=⟨g,l.length,none⟩) ((pw_below_drewN (Below.refl w.heap.size w) nd).block g (World.block_lt_of_cell? _ _ HM.out))).trans HM.out
 have HB:=Lib.hid (pw_below_drewN (Below.refl w.heap.size w) nd)
 clear HM
 unfold mark at hcell
 go_wp2
 case isFalse hn=>exact absurd ⟨by omega,by have:=HCAP.out; omega⟩ hn
 go_ret
 exact ⟨rfl,HB.out⟩
end Go.Proofs.YtglaeambknhjlaaGreatDoor.Q
end
section
namespace Go.Proofs.YtglaeambknhjlaaGreatDoor.P
open Go.RowKit Go.Proofs.YtglaeambknhjlaaGreatDoorW.PrintWords
def val:List Int→Int
 | []=>0
 | x :: xs=>x+4294967296*val xs
def Wd (ws:List Int):Prop:=∀ u∈ws,0≤u∧u<4294967296
theorem Wd.nil:Wd []:=fun u h=>by cases h
theorem Wd.cons {x:Int} {xs:List Int} (h0:0≤x) (h1:x<4294967296) (h:Wd xs):Wd (x :: xs):=fun u hu=>by
 rcases List.mem_cons.1 hu with rfl|hu
 ·exact ⟨h0,h1⟩
 ·exact h u hu
theorem Wd.tail {x:Int} {xs:List Int} (h:Wd (x :: xs)):Wd xs:=fun u hu=>h u (List.mem_cons_of_mem _ hu)
theorem Wd.head {x:Int} {xs:List Int} (h:Wd (x :: xs)):0≤x∧x<4294967296:=h x List.mem_cons_self
theorem Wd.append {xs ys:List Int} (h:Wd xs) (k:Wd ys):Wd (xs++ys):=fun u hu=>(List.mem_append.1 hu).elim (h u) (k u)
theorem Wd.take {xs:List Int} (h:Wd xs) (n:Nat):Wd (xs.take n):=fun u hu=>h u (List.mem_of_mem_take hu)
theorem Wd.drop {xs:List Int} (h:Wd xs) (n:Nat):Wd (xs.drop n):=fun u hu=>h u (List.mem_of_mem_drop hu)
theorem Wd.rd {xs:List Int} (h:Wd xs) (i:Int):0≤rd xs i∧rd xs i<4294967296:=by
 unfold Go.Proofs.YtglaeambknhjlaaGreatDoorW.PrintWords.rd
 rw [List.getD_eq_getElem?_getD]
 rcases Nat.lt_or_ge i.toNat xs.length with hi|hi
 ·rw [List.getElem?_eq_getElem hi]; exact h _ (List.getElem_mem hi)
 ·rw [List.getElem?_eq_none hi]; exact ⟨by decide,by decide⟩
theorem val_nonneg {xs:List Int} (h:Wd xs):0≤val xs:=by
 induction xs with
 | nil=>exact Int.le_refl _
 | cons x xs ih=>have:=ih h.tail; have:=h.head; simp only [val]; omega
theorem val_append (xs ys:List Int):val (xs++ys)=val xs+4294967296^xs.length*val ys:=by
 induction xs with
 | nil=>simp [val]
 | cons x xs ih=>simp only [List.cons_append,val,ih,List.length_cons,Int.pow_succ]; rw [Int.mul_add,Int.mul_comm (4294967296^xs.length) 4294967296,Int.mul_assoc]; omega
theorem val_lt {xs:List Int} (h:Wd xs):val xs<4294967296^xs.length:=by
 induction xs with
 | nil=>simp [val]
 | cons x xs ih=>have:=ih h.tail; have:=h.head; simp only [val,List.length_cons,Int.pow_succ]; omega
theorem val_zeros (n:Nat):val (List.replicate n 0)=0:=by
 induction n with
 | zero=>rfl
 | succ n ih=>simp [List.replicate_succ,val,ih]
structure Norm (neg:Bool) (ws:List Int) (x:Int):Prop where
 wd:Wd ws
 top:ws.getLast? ≠ some 0
 pos:ws = []→neg=false
 eq:x=if neg then-val ws else val ws
theorem Norm.abs {neg:Bool} {ws:List Int} {x:Int} (h:Norm neg ws x):(x.natAbs:Int)=val ws:=by
 have:=val_nonneg h.wd
 have:=h.eq
 split at this<;>omega
theorem val_pos {ws:List Int} (h:Wd ws) (ht:ws.getLast? ≠ some 0) (hn:ws ≠ []):4294967296^(ws.length-1)≤val ws:=by
 obtain ⟨ys,y,rfl⟩:∃ ys y,ws=ys ++ [y]:=⟨ws.dropLast,ws.getLast hn,(List.dropLast_concat_getLast hn).symm⟩
 have hy:y≠0:=by simpa using ht
 have h1:=h y (by simp)
 have h2:=val_nonneg (fun u hu=>h u (List.mem_append_left _ hu):Wd ys)
 rw [val_append]
 simp only [val,List.length_append,List.length_singleton,Nat.add_sub_cancel]
 have h3:(4294967296:Int)^ys.length*1≤4294967296^ys.length*(y+4294967296*0):=Int.mul_le_mul_of_nonneg_left (by omega) (Int.pow_nonneg (by decide))
 omega
theorem Norm.nil_iff {neg:Bool} {ws:List Int} {x:Int} (h:Norm neg ws x):ws = []↔x=0:=by
 constructor
 ·rintro rfl
  have:=h.eq
  simpa [val] using this
 ·intro hx
  apply Classical.byContradiction
  intro hn
  have h1:=val_pos h.wd h.top hn
  have h2:(0:Int)<4294967296^(ws.length-1):=Int.pow_pos (by decide)
  have:=h.abs
  subst hx
  simp at this
  omega
theorem Norm.neg_iff {neg:Bool} {ws:List Int} {x:Int} (h:Norm neg ws x):neg=true↔x<0:=by
 have h0:=val_nonneg h.wd
 have he:=h.eq
 constructor
 ·rintro rfl
  have hn:ws ≠ []:=fun e=>by have:=h.pos e; cases this
  have:x≠0:=fun e=>hn (h.nil_iff.2 e)
  simp only [if_true] at he
  omega
 ·intro hx
  cases neg with
  | true=>rfl
  | false=>rw [if_neg (by decide)] at he; omega
theorem Norm.val_eq {neg:Bool} {ws:List Int} {x:Int} (h:Norm neg ws x):val ws=(x.natAbs:Int):=h.abs.symm
theorem Norm.len {neg:Bool} {ws:List Int} {x:Int} (h:Norm neg ws x) {n m:Nat} (hx:x.natAbs<2^m) (hm:m≤32*n):ws.length≤n:=by
 apply Classical.byContradiction
 intro hn
 have hne:ws ≠ []:=fun e=>by subst e; simp at hn
 have h1:=val_pos h.wd h.top hne
 rw [h.val_eq] at h1
 have h2:(2:Nat)^(32*n)≤4294967296^(ws.length-1):=by
  rw [Nat.pow_mul]; exact Nat.pow_le_pow_right (by decide) (by omega)
 have h4:(2:Nat)^m≤2^(32*n):=Nat.pow_le_pow_right (by decide) hm
 have h3:((4294967296:Nat):Int)^(ws.length-1)≤(x.natAbs:Int):=h1
 rw [←Int.natCast_pow] at h3
 omega
structure WAt (w:World) (A:Option Addr) (c:Nat) (ws:List Int):Prop where
 le:ws.length≤c
 row:Kd.C (Kd.int .u32) w A ws.length ws
 typ:∀ ad,A=some ad→∃ cs,w.heap[ad.block]? = some (.cells cs 171 (0,0))
theorem WAt.nil (w:World):WAt w none 0 []:=⟨Nat.le_refl _,Kd.C_nil _ _,fun _ h=>by cases h⟩
theorem WAt.of_R {w:World} {base:Nat} {ok:Nat→Prop} {v:Value} {ws:List Int} (h:Kd.R (Kd.int .u32) 171 w base ok v ws):∃ A c,v = .slice A ws.length c∧WAt w A c ws:=by
 obtain ⟨A,c,rfl,hl,hr⟩:=Kd.R_reads h
 refine ⟨A,c,rfl,hl,hr,fun ad he => ?_⟩
 subst he
 exact Kd.R_typed h ad.block (by
  obtain ⟨inner,ho⟩:=Kd.R_own h
  rcases ho.2 with ⟨hv,_⟩|⟨g,cap',cur,hv,_⟩
  ·cases hv
  ·injection hv with ha _ _
   injection ha with ha
   subst ha
   simp [Value.ownBlock])
structure Upd (w w':World) (b lo hi:Nat):Prop where
 os:w'.os=w.os
 tape:w'.tape=w.tape
 output:w'.output=w.output
 size:w.heap.size≤w'.heap.size
 other:∀ k,k<w.heap.size→k≠b→w'.heap[k]? = w.heap[k]?
 word:∀ (k:Nat) (cs:Array Value),w.heap[k]? = some (.cells cs 171 (0,0))→w'.heap[k]? = w.heap[k]?
 same:∀ (cs:Array Value) (t:TypeId),w.heap[b]? = some (.cells cs t (0,0))→∃ cs':Array Value,w'.heap[b]? = some (.cells cs' t (0,0))∧cs'.size=cs.size∧∀ j,(j<lo∨hi≤j)→cs'[j]? = cs[j]?
theorem Upd.of_below {w w':World} (h:Below w.heap.size w w') (b lo hi:Nat):Upd w w' b lo hi where
 os:=h.os
 tape:=h.tape
 output:=h.output
 size:=h.size
 other:=fun k hk _=>h.block k hk
 word:=fun k cs hk=>h.block k (blk_lt hk)
 same:=fun cs t hb=>⟨cs,(h.block b (blk_lt hb)).trans hb,rfl,fun _ _=>rfl⟩
theorem Upd.refl (w:World) (b lo hi:Nat):Upd w w b lo hi:=Upd.of_below (Below.refl _ _) b lo hi
theorem Upd.trans {w w1 w2:World} {b lo hi:Nat} (h:Upd w w1 b lo hi) (k:Upd w1 w2 b lo hi):Upd w w2 b lo hi where
 os:=k.os.trans h.os
 tape:=k.tape.trans h.tape
 output:=k.output.trans h.output
 size:=Nat.le_trans h.size k.size
 other:=fun i hi_ hne=>(k.other i (Nat.lt_of_lt_of_le hi_ h.size) hne).trans (h.other i hi_ hne)
 word:=fun i cs hc=>(k.word i cs ((h.word i cs hc).trans hc)).trans (h.word i cs hc)
 same:=fun cs t hb=>by
  obtain ⟨c1,h1,s1,e1⟩:=h.same cs t hb
  obtain ⟨c2,h2,s2,e2⟩:=k.same c1 t h1
  exact ⟨c2,h2,s2.trans s1,fun j hj=>(e2 j hj).trans (e1 j hj)⟩
theorem Upd.mono {w w1:World} {b lo hi lo' hi':Nat} (h:Upd w w1 b lo hi) (h1:lo'≤lo) (h2:hi≤hi'):Upd w w1 b lo' hi' where
 os:=h.os
 tape:=h.tape
 output:=h.output
 size:=h.size
 other:=h.other
 word:=h.word
 same:=fun cs t hb=>by
  obtain ⟨c1,h3,s1,e1⟩:=h.same cs t hb
  exact ⟨c1,h3,s1,fun j hj=>e1 j (by omega)⟩
theorem Upd.tmp {w w1 w2:World} {b lo hi g lo' hi':Nat} (h:Upd w w1 b lo hi) (k:Upd w1 w2 g lo' hi') (hg:w.heap.size≤g) (hb:b<w.heap.size):Upd w w2 b lo hi where
 os:=k.os.trans h.os
 tape:=k.tape.trans h.tape
 output:=k.output.trans h.output
 size:=Nat.le_trans h.size k.size
 other:=fun i hi_ hne=>(k.other i (Nat.lt_of_lt_of_le hi_ h.size) (by omega)).trans (h.other i hi_ hne)
 word:=fun i cs hc=>(k.word i cs ((h.word i cs hc).trans hc)).trans (h.word i cs hc)
 same:=fun cs t hb'=>by
  obtain ⟨c1,h1,s1,e1⟩:=h.same cs t hb'
  exact ⟨c1,(k.other b (by have:=h.size; omega) (by omega)).trans h1,s1,e1⟩
theorem Upd.below_tmp {w0 w w':World} {g lo hi:Nat} (h:Below w0.heap.size w0 w) (k:Upd w w' g lo hi) (hg:w0.heap.size≤g):Below w0.heap.size w0 w' where
 os:=k.os.trans h.os
 tape:=k.tape.trans h.tape
 output:=k.output.trans h.output
 size:=Nat.le_trans h.size k.size
 block:=fun i hi_=>(k.other i (Nat.lt_of_lt_of_le hi_ h.size) (by omega)).trans (h.block i hi_)
theorem Upd.drewN {w w':World} {b lo hi:Nat} (h:Upd w w' b lo hi) (n:Nat):Upd w (w'.drewN n) b lo hi:=h.trans (Upd.of_below (pw_below_drewN (Below.refl _ _) n) _ _ _)
theorem Upd.alloc {w w':World} {b lo hi:Nat} (h:Upd w w' b lo hi) (o:Obj):Upd w (w'.alloc o) b lo hi:=h.trans (Upd.of_below (below_alloc (Below.refl _ _) o) _ _ _)
theorem Upd.set (w:World) {b lo hi j t:Nat} {cs:Array Value} (hb:w.heap[b]? = some (.cells cs t (0,0))) (ht:t≠171) (h1:lo≤j) (h2:j<hi) (u:Value):Upd w (w.setCell ⟨b,j,none⟩ u) b lo hi where
 os:=rfl
 tape:=rfl
 output:=rfl
 size:=by simp [World.setCell]
 other:=fun k _ hne=>Below.heap_setCell w ⟨b,j,none⟩ u k hne
 word:=fun k cs' hk=>Below.heap_setCell w ⟨b,j,none⟩ u k (by
  rintro rfl
  rw [hb] at hk
  injection hk with hk
  injection hk with _ hk
  exact ht hk)
 same:=fun cs' t' hk=>by
  rw [hb] at hk
  injection hk with hk
  injection hk with e1 e2
  subst e1; subst e2
  exact ⟨_,blk_set hb j u,by simp,fun i hi_=>Array.getElem?_setIfInBounds_ne (by omega)⟩
theorem WAt.upd {w w':World} {A:Option Addr} {c:Nat} {ws:List Int} {b lo hi:Nat} (h:WAt w A c ws) (k:Upd w w' b lo hi):WAt w' A c ws where
 le:=h.le
 row:=⟨h.row.1,h.row.2.1,fun hn=>by
  obtain ⟨ad,he,hc⟩:=h.row.2.2 hn
  obtain ⟨cs,hb⟩:=h.typ ad he
  refine ⟨ad,he,fun j p hp => ?_⟩
  obtain ⟨c',h1,h2,h3⟩:=hc j p hp
  refine ⟨c',h1,h2,fun i u hu => ?_⟩
  rw [←h3 i u hu]
  exact World.cell?_of_block (w:=w) (by rw [add_block]; exact k.word _ _ hb)⟩
 typ:=fun ad he=>by
  obtain ⟨cs,hb⟩:=h.typ ad he
  exact ⟨cs,(k.word _ _ hb).trans hb⟩
theorem WAt.below {w w':World} {A:Option Addr} {c:Nat} {ws:List Int} (h:WAt w A c ws) (k:Below w.heap.size w w'):WAt w' A c ws:=h.upd (Upd.of_below k 0 0 0)
theorem WAt.cell {w:World} {ad:Addr} {c:Nat} {ws:List Int} (h:WAt w (some ad) c ws) {j:Nat} (hj:j<ws.length):w.cell? (ad.add j)=some (.int .u32 (ws.getD j 0)):=by
 obtain ⟨ad',he,hc⟩:=h.row.2.2 (by omega)
 injection he with he
 subst he
 obtain ⟨cs,h1,h2,h3⟩:=hc j _ (List.getElem?_eq_getElem hj)
 have h2':cs = [Value.int .u32 ws[j]]:=h2
 subst h2'
 have:=h3 0 _ rfl
 simp only [Nat.add_zero] at this
 have e:j*(Kd.int .u32).sz=j:=Nat.mul_one j
 rw [e] at this
 rw [this,List.getD_eq_getElem?_getD,List.getElem?_eq_getElem hj]; rfl
theorem WAt.ptr {w:World} {A:Option Addr} {c:Nat} {ws:List Int} (h:WAt w A c ws) (hn:0<ws.length):∃ ad,A=some ad:=by
 obtain ⟨ad,he,_⟩:=h.row.2.2 hn
 exact ⟨ad,he⟩
theorem WAt.lmax {w:World} {A:Option Addr} {c:Nat} {ws:List Int} (h:WAt w A c ws):ws.length≤9223372036854775807:=h.row.2.1
theorem WAt.take {w:World} {A:Option Addr} {c:Nat} {ws:List Int} (h:WAt w A c ws) (n:Nat) (hn:n≤ws.length):WAt w A c (ws.take n) where
 le:=by rw [List.length_take]; have:=h.le; omega
 row:=Kd.C_take h.row hn
 typ:=h.typ
def Slot (w:World) (b o:Nat):Prop:=∃ (cs:Array Value) (t:TypeId),w.heap[b]? = some (.cells cs t (0,0))∧o+2≤cs.size∧t≠171
structure IntAt (w:World) (b o:Nat) (x:Int):Prop where
 slot:Slot w b o
 out:∃ neg A c ws,w.cell? ⟨b,o,none⟩=some (.bool neg)∧w.cell? ⟨b,o+1,none⟩=some (.slice A ws.length c)∧WAt w A c ws∧Norm neg ws x
theorem Slot.lt {w:World} {b o:Nat} (h:Slot w b o):b<w.heap.size:=by
 obtain ⟨cs,t,hb,_⟩:=h
 exact blk_lt hb
theorem Slot.frozen {w:World} {b o:Nat} (h:Slot w b o) (j:Nat):w.frozen? ⟨b,j,none⟩=false:=by
 obtain ⟨cs,t,hb,_⟩:=h
 exact blk_frozen hb j
theorem Slot.cells {w:World} {b o:Nat} (h:Slot w b o):(∃ v,w.cell? ⟨b,o,none⟩=some v)∧∃ v,w.cell? ⟨b,o+1,none⟩=some v:=by
 obtain ⟨cs,t,hb,hs,_⟩:=h
 exact ⟨⟨_,(blk_cell hb o).trans (Array.getElem?_eq_getElem (by omega))⟩,⟨_,(blk_cell hb (o+1)).trans (Array.getElem?_eq_getElem (by omega))⟩⟩
theorem Slot.upd {w w':World} {b o b' lo hi:Nat} (h:Slot w b o) (k:Upd w w' b' lo hi):Slot w' b o:=by
 obtain ⟨cs,t,hb,hs,ht⟩:=h
 by_cases e:b=b'
 ·subst e
  obtain ⟨c1,h1,s1,_⟩:=k.same cs t hb
  exact ⟨c1,t,h1,by omega,ht⟩
 ·exact ⟨cs,t,(k.other b (blk_lt hb) e).trans hb,hs,ht⟩
theorem IntAt.lt {w:World} {b o:Nat} {x:Int} (h:IntAt w b o x):b<w.heap.size:=h.slot.lt
theorem IntAt.upd {w w':World} {b o b' lo hi:Nat} {x:Int} (h:IntAt w b o x) (k:Upd w w' b' lo hi) (hd:b≠b'∨o+2≤lo∨hi≤o):IntAt w' b o x:=by
 refine ⟨h.slot.upd k,?_⟩
 obtain ⟨neg,A,c,ws,h1,h2,h3,h4⟩:=h.out
 obtain ⟨cs,t,hb,hs,ht⟩:=h.slot
 by_cases e:b=b'
 ·subst e
  obtain ⟨c1,hb1,s1,e1⟩:=k.same cs t hb
  refine ⟨neg,A,c,ws,?_,?_,h3.upd k,h4⟩
  ·rw [←h1,blk_cell hb,blk_cell hb1]; exact e1 _ (by omega)
  ·rw [←h2,blk_cell hb,blk_cell hb1]; exact e1 _ (by omega)
 ·have hb1:=(k.other b (blk_lt hb) e).trans hb
  refine ⟨neg,A,c,ws,?_,?_,h3.upd k,h4⟩
  ·rw [←h1,blk_cell hb,blk_cell hb1]
  ·rw [←h2,blk_cell hb,blk_cell hb1]
theorem IntAt.below {w w':World} {b o:Nat} {x:Int} (h:IntAt w b o x) (k:Below w.heap.size w w'):IntAt w' b o x:=h.upd (Upd.of_below k b 0 0) (by omega)
structure Inv (w:World) (L:List (Nat×Nat×Int)):Prop where
 at_:∀ b o x,(b,o,x)∈L→IntAt w b o x∧(o=0∨o=2)
theorem Inv.nil (w:World):Inv w []:=⟨fun _ _ _ h=>by cases h⟩
theorem Inv.get {w:World} {L:List (Nat×Nat×Int)} (h:Inv w L) {b o:Nat} {x:Int} (hm:(b,o,x)∈L):IntAt w b o x:=(h.at_ b o x hm).1
theorem Inv.cons {w:World} {L:List (Nat×Nat×Int)} {b o:Nat} {x:Int} (h:Inv w L) (hx:IntAt w b o x) (ho:o=0∨o=2):Inv w ((b,o,x) :: L):=
 ⟨fun b' o' x' hm=>by
  rcases List.mem_cons.1 hm with e|hm
  ·injection e with e1 e2; injection e2 with e2 e3; subst e1; subst e2; subst e3; exact ⟨hx,ho⟩
  ·exact h.at_ b' o' x' hm⟩
theorem Inv.sub {w:World} {L L':List (Nat×Nat×Int)} (h:Inv w L) (hs:∀ e∈L',e∈L):Inv w L':=⟨fun b o x hm=>h.at_ b o x (hs _ hm)⟩
theorem Inv.below {w w':World} {L:List (Nat×Nat×Int)} (h:Inv w L) (k:Below w.heap.size w w'):Inv w' L:=⟨fun b o x hm=>⟨(h.get hm).below k,(h.at_ b o x hm).2⟩⟩
theorem Inv.upd {w w':World} {L:List (Nat×Nat×Int)} {b o:Nat} {v:Int} (h:Inv w L) (k:Upd w w' b o (o+2)) (hv:IntAt w' b o v) (ho:o=0∨o=2) (L':List (Nat×Nat×Int))
  (hL:∀ e∈L',e=(b,o,v)∨(e∈L∧(e.1≠b∨e.2.1≠o))):Inv w' L':=⟨fun b' o' x' hm=>by
 rcases hL _ hm with e|⟨hm',hne⟩
 ·injection e with e1 e2; injection e2 with e2 e3; subst e1; subst e2; subst e3; exact ⟨hv,ho⟩
 ·have h2:=h.at_ b' o' x' hm'
  refine ⟨h2.1.upd k ?_,h2.2⟩
  rcases hne with hne|hne
  ·exact .inl hne
  ·have:o'≠o:=hne
   omega⟩
theorem IntAt.new (w:World) (t:TypeId) (ht:t≠171):IntAt (w.alloc (.cells #[.bool false,.slice none 0 0] t)) w.heap.size 0 0:=by
 have hb:=blk_new w (.cells #[.bool false,.slice none 0 0] t)
 exact ⟨⟨_,t,hb,by simp,ht⟩,false,none,0,[],(blk_cell hb 0).trans rfl,(blk_cell hb 1).trans rfl,WAt.nil _,⟨Wd.nil,by simp,fun _=>rfl,by simp [val]⟩⟩
theorem IntAt.newRat (w:World) (t:TypeId) (ht:t≠171):IntAt (w.alloc (.cells #[.bool false,.slice none 0 0,.bool false,.slice none 0 0] t)) w.heap.size 0 0∧IntAt (w.alloc (.cells #[.bool false,.slice none 0 0,.bool false,.slice none 0 0] t)) w.heap.size 2 0:=by
 have hb:=blk_new w (.cells #[.bool false,.slice none 0 0,.bool false,.slice none 0 0] t)
 have hn:Norm false [] 0:=⟨Wd.nil,by simp,fun _=>rfl,by simp [val]⟩
 exact ⟨⟨⟨_,t,hb,by simp,ht⟩,false,none,0,[],(blk_cell hb 0).trans rfl,(blk_cell hb 1).trans rfl,WAt.nil _,hn⟩,
  ⟨⟨_,t,hb,by simp,ht⟩,false,none,0,[],(blk_cell hb 2).trans rfl,(blk_cell hb 3).trans rfl,WAt.nil _,hn⟩⟩
def sg (neg:Bool) (v:Int):Int:=if neg then -v else v
theorem val_take_zero {ws:List Int} {n:Nat} (hn:0<n) (hl:n≤ws.length) (hz:ws.getD (n-1) 0=0):val (ws.take n)=val (ws.take (n-1)):=by
 obtain ⟨m,rfl⟩:∃ m,n=m+1:=⟨n-1,by omega⟩
 simp only [Nat.add_sub_cancel] at hz ⊢
 have hm:m<ws.length:=by omega
 rw [List.getD_eq_getElem?_getD,List.getElem?_eq_getElem hm] at hz
 have hz':ws[m]=0:=hz
 rw [List.take_succ_eq_append_getElem hm,hz',val_append]
 simp [val]
theorem norm_cut {neg:Bool} {ws:List Int} {n:Nat} (h:Wd ws) (hl:n≤ws.length) (hv:val (ws.take n)=val ws) (ht:n=0∨ws.getD (n-1) 0≠0) :
  Norm (neg && decide (0<n)) (ws.take n) (sg neg (val ws)):=by
 have hlen:(ws.take n).length=n:=by rw [List.length_take]; omega
 refine ⟨h.take n,?_,?_,?_⟩
 ·rcases ht with rfl|ht
  ·simp
  ·intro he
   have hn:0<n:=by
    rcases Nat.eq_zero_or_pos n with rfl|h0
    ·simp at he
    ·exact h0
   rw [List.getLast?_eq_getElem?,hlen,List.getElem?_take,if_pos (by omega)] at he
   rw [List.getD_eq_getElem?_getD,he] at ht
   exact ht rfl
 ·intro he
  have:n=0:=by rw [he] at hlen; simpa using hlen.symm
  subst this
  simp
 ·unfold sg
  rw [hv]
  rcases Nat.eq_zero_or_pos n with rfl|h0
  ·simp only [List.take_zero,val] at hv
   rw [←hv]; cases neg<;>rfl
  ·have:decide (0<n)=true:=by simpa using h0
   rw [this,Bool.and_true]
theorem put_at {w:World} {b o c n:Nat} {A:Option Addr} {neg:Bool} {ws:List Int} {x:Int} (hz:Slot w b o) (hw:WAt w A c ws) (hl:ws.length=n) (hn:Norm neg ws x) :
  IntAt ((w.setCell ⟨b,o,none⟩ (.bool neg)).setCell ⟨b,o+1,none⟩ (.slice A n c)) b o x∧Upd w ((w.setCell ⟨b,o,none⟩ (.bool neg)).setCell ⟨b,o+1,none⟩ (.slice A n c)) b o (o+2):=by
 subst hl
 obtain ⟨cs,t,hb,hs,ht⟩:=hz
 have h1:=blk_set hb o (.bool neg)
 have h2:=blk_set h1 (o+1) (.slice A ws.length c)
 have hU:Upd w ((w.setCell ⟨b,o,none⟩ (.bool neg)).setCell ⟨b,o+1,none⟩ (.slice A ws.length c)) b o (o+2):=
  (Upd.set w hb ht (Nat.le_refl _) (by omega) _).trans (Upd.set _ h1 ht (by omega) (by omega) _)
 refine ⟨⟨⟨_,t,h2,by simpa using hs,ht⟩,neg,A,c,ws,?_,?_,hw.upd hU,hn⟩,hU⟩
 ·rw [blk_cell h2,Array.getElem?_setIfInBounds_ne (by omega),Array.getElem?_setIfInBounds_self_of_lt (by omega)]
 ·rw [blk_cell h2,Array.getElem?_setIfInBounds_self_of_lt (by simp; omega)]
theorem put_calls (b o:Nat) (neg:Bool) (A:Option Addr) (c:Nat) (ws:List Int) (w:World) (hz:Slot w b o) (hw:WAt w A c ws) (hwd:Wd ws) :
  Calls Tryz.prog 187 #[.pointer (some ⟨b,o,none⟩),.bool neg,.slice A ws.length c] w fun e w'=>e = .returned (.pointer (some ⟨b,o,none⟩))∧IntAt w' b o (sg neg (val ws))∧Upd w w' b o (o+2):=by
 have hmax:=hw.lmax
 have hlc:=hw.le
 obtain ⟨⟨v0,hc0⟩,v1,hc1⟩:=hz.cells
 have hf0:=hz.frozen o
 have hf1:=hz.frozen (o+1)
 go_enter Tryz.func187,Tryz.ntmps187
 go_wp2
 go_loop [2] (fun v=>∃ n:Nat,n≤ws.length∧v = .slice A n c∧val (ws.take n)=val ws) (fun v=>match v with|.slice _ n _=>n|_=>0)
 case atStart=>exact ⟨ws.length,Nat.le_refl _,rfl,by rw [List.take_length]⟩
 case round =>
  obtain ⟨n,hn,rfl,hv⟩:=hrel
  have HV:=Lib.hid hv
  clear hv
  have hlen:(ws.take n).length=n:=by rw [List.length_take]; omega
  have HL:=Lib.hid hlen
  clear hlen
  rcases Nat.eq_zero_or_pos n with h0|h0
  ·subst h0
   cases neg
   ·have hp:=put_at hz (hw.take 0 (Nat.zero_le _)) HL.out (norm_cut (neg:=false) hwd hn HV.out (.inl rfl))
    have HP:=Lib.hid hp
    clear hp
    go_wp2
    go_ret
    exact ⟨rfl,HP.out⟩
   ·have hp:=put_at hz (hw.take 0 (Nat.zero_le _)) HL.out (norm_cut (neg:=true) hwd hn HV.out (.inl rfl))
    have HP:=Lib.hid hp
    clear hp
    go_wp2
    go_ret
    exact ⟨rfl,HP.out⟩
  ·obtain ⟨ad,rfl⟩:=hw.ptr (by omega)
   have hcell:=hw.cell (j:=n-1) (by omega)
   by_cases hz0:ws.getD (n-1) 0=0
   ·have hv2:=val_take_zero h0 hn hz0
    have HV2:=Lib.hid hv2
    clear hv2
    rw [hz0] at hcell
    clear hz0
    go_wp2
    go_round
    case rel=>exact ⟨n-1,by omega,by first|(simp; done)|(simp; omega),HV2.out.symm.trans HV.out⟩
    case measure=>simp; omega
   ·have hb:(ws.getD (n-1) 0 == 0)=false:=beq_eq_false_iff_ne.2 hz0
    generalize ws.getD (n-1) 0=u at hcell hb
    cases neg
    ·have hp:=put_at hz (hw.take n hn) HL.out (norm_cut (neg:=false) hwd hn HV.out (.inr hz0))
     have HP:=Lib.hid hp
     clear hp hz0
     go_wp2
     go_ret
     exact ⟨rfl,HP.out⟩
    ·have hp:=put_at hz (hw.take n hn) HL.out (norm_cut (neg:=true) hwd hn HV.out (.inr hz0))
     have hd:decide (0<n)=true:=by simpa using h0
     rw [hd] at hp
     have HP:=Lib.hid hp
     clear hp hz0 hd
     go_wp2
     go_ret
     exact ⟨rfl,HP.out⟩
theorem infoU32:(Tryz.prog.info? 171).map (fun i=>(i.zero,i.size,i.bytes))=some (some (.int .u32 0),1,4):=by kernel_rfl
theorem WAt.reads {w:World} {A:Option Addr} {c:Nat} {ws:List Int} (h:WAt w A c ws):ReadsInt w .u32 A ws.length ws:=
 ⟨rfl,h.lmax,fun hn=>by
  obtain ⟨ad,rfl⟩:=h.ptr hn
  exact ⟨ad,rfl,fun j hj=>h.cell hj⟩⟩
theorem WAt.of_own {w:World} {base:Nat} {v:Value} {ws:List Int} (h:w.ownsRow base 171 1 v ws.length (nums .u32 ws)):∃ A c,v = .slice A ws.length c∧WAt w A c ws:=
 WAt.of_R (ok:=fun _=>True) ⟨fun _ _=>trivial,nums .u32 ws,h,Kd.reps_scalar ws⟩
theorem WAt.lit (w:World) (xs:List Int) (hl:xs.length≤9223372036854775807):WAt (w.alloc (.cells (nums .u32 xs).toArray 171)) (some ⟨w.heap.size,0,none⟩) xs.length xs:=by
 obtain ⟨A,c,he,h⟩:=WAt.of_own (own_lit w w.heap.size 171 .u32 xs (Nat.le_refl _) hl)
 injection he with e1 e2 e3
 subst e1; subst e3
 exact h
theorem clone_calls (A:Option Addr) (c:Nat) (ws:List Int) (w:World) (hw:WAt w A c ws) (hs:ws.length≤35184372088832) :
  Calls Tryz.prog 188 #[.slice A ws.length c] w fun e w'=>∃ A' c',e = .returned (.slice A' ws.length c')∧WAt w' A' c' ws∧Below w.heap.size w w':=by
 have hmax:=hw.lmax
 have hlc:=hw.le
 have hn1:=fun W a n c=>Go.run_eql_slice_nil (P:=Tryz.prog) W 103 171 a n c Tryz.underlying103
 rcases A with _|ad
 ·have h0:ws = []:=by
   rcases Nat.eq_zero_or_pos ws.length with h|h
   ·exact List.eq_nil_of_length_eq_zero h
   ·obtain ⟨ad,he⟩:=hw.ptr h; cases he
  subst h0
  go_enter Tryz.func188,Tryz.ntmps188
  go_wp2
  go_ret
  exact ⟨none,0,rfl,WAt.nil _,Below.refl _ _⟩
 ·have hrd:=hw.below (below_alloc (Below.refl _ _) (.cells #[] 171))
  have HRD:=Lib.hid hrd.reads
  clear hrd
  have how:=own_lit w w.heap.size 171 .u32 [] (Nat.le_refl _) (by simp)
  have HOW:=Lib.hid how
  clear how
  go_enter Tryz.func188,Tryz.ntmps188
  go_wp2_with (at_builtin; refine print_append_row w.heap.size rfl _ _ 103 171 .u32 4 rfl Tryz.underlying103 infoU32 (by decide) _ [] ws _ ws.length c rfl rfl HOW.out HRD.out (below_alloc (Below.refl _ _) _) (by simp) (by simp; omega) ?_; intro v1 w1 hown hb hg hat)
  simp only [List.nil_append] at hown
  obtain ⟨A',c',rfl,hW⟩:=WAt.of_own hown
  go_wp2
  go_ret
  exact ⟨A',c',rfl,hW,hb⟩
theorem setInt64_calls (b o:Nat) (n:Int) (w:World) (hz:Slot w b o) (h0 : -9223372036854775808≤n) (h1:n<9223372036854775808) :
  Calls Tryz.prog 197 #[.pointer (some ⟨b,o,none⟩),.int .i64 n] w fun e w'=>e = .returned (.pointer (some ⟨b,o,none⟩))∧IntAt w' b o n∧Upd w w' b o (o+2):=by
 by_cases hn:n<0
 ·have hl:=WAt.lit w [IntKind.u64.wrap (-IntKind.u64.wrap n)%4294967296,IntKind.u64.wrap (-IntKind.u64.wrap n)/4294967296%4294967296] (by simp)
  have HL:=Lib.hid hl
  clear hl
  go_enter Tryz.func197,Tryz.ntmps197
  go_wp2_with fail
  refine (put_calls b o true _ _ [IntKind.u64.wrap (-IntKind.u64.wrap n)%4294967296,IntKind.u64.wrap (-IntKind.u64.wrap n)/4294967296%4294967296] _ (hz.upd (Upd.of_below (below_alloc (Below.refl _ _) _) 0 0 0)) HL.out (Wd.cons (by omega) (by omega) (Wd.cons (by omega) (by omega) Wd.nil))).mono ?_
  rintro e w1 ⟨rfl,hx,hu⟩
  go_wp2
  go_ret
  refine ⟨rfl,?_,(Upd.of_below (below_alloc (Below.refl _ _) _) _ _ _).trans hu⟩
  have:sg true (val [IntKind.u64.wrap (-IntKind.u64.wrap n)%4294967296,IntKind.u64.wrap (-IntKind.u64.wrap n)/4294967296%4294967296])=n:=by
   have e1:IntKind.u64.wrap (-IntKind.u64.wrap n) = -n:=by
    have e0:IntKind.u64.wrap n=n+18446744073709551616:=by
     rw [IntKind.wrap_u64]; omega
    rw [e0,IntKind.wrap_u64]; omega
   rw [e1]
   simp only [sg,val,if_true]
   omega
  rwa [this] at hx
 ·have hl:=WAt.lit w [n%4294967296,n/4294967296] (by simp)
  have HL:=Lib.hid hl
  clear hl
  go_enter Tryz.func197,Tryz.ntmps197
  go_wp2_with fail
  refine (put_calls b o false _ _ [n%4294967296,n/4294967296] _ (hz.upd (Upd.of_below (below_alloc (Below.refl _ _) _) 0 0 0)) HL.out (Wd.cons (by omega) (by omega) (Wd.cons (by omega) (by omega) Wd.nil))).mono ?_
  rintro e w1 ⟨rfl,hx,hu⟩
  go_wp2
  go_ret
  refine ⟨rfl,?_,(Upd.of_below (below_alloc (Below.refl _ _) _) _ _ _).trans hu⟩
  have:sg false (val [n%4294967296,n/4294967296])=n:=by
   simp only [sg,val]
   simp
   omega
  rwa [this] at hx
theorem newInt_calls (n:Int) (w:World) (h0 : -9223372036854775808≤n) (h1:n<9223372036854775808) :
  Calls Tryz.prog 112 #[.int .i64 n] w fun e w'=>e = .returned (.pointer (some ⟨w.heap.size,0,none⟩))∧IntAt w' w.heap.size 0 n∧Below w.heap.size w w':=by
 have hnew:=IntAt.new w 105 (by decide)
 have hu105:=Tryz.underlying105
 go_enter Tryz.func112,Tryz.ntmps112
 go_wp2_with fail
 refine (setInt64_calls w.heap.size 0 n _ hnew.slot h0 h1).mono ?_
 rintro e w1 ⟨rfl,hx,hu⟩
 go_wp2
 go_ret
 exact ⟨rfl,hx,hu.below_tmp (below_alloc (Below.refl _ _) _) (Nat.le_refl _)⟩
theorem sign_calls (b o:Nat) (x:Int) (w:World) (hx:IntAt w b o x) :
  Calls Tryz.prog 105 #[.pointer (some ⟨b,o,none⟩)] w fun e w'=>e = .returned (.int .i64 x.sign)∧w=w':=by
 obtain ⟨neg,A,c,ws,h1,h2,h3,h4⟩:=hx.out
 have hmax:=h3.lmax
 rcases Nat.eq_zero_or_pos ws.length with hn|hn
 ·obtain rfl:=List.eq_nil_of_length_eq_zero hn
  have hx0:x=0:=h4.nil_iff.1 rfl
  subst hx0
  clear hn hmax
  go_enter Tryz.func105,Tryz.ntmps105
  go_wp2
  go_ret
  exact ⟨rfl,rfl⟩
 ·have hne:x≠0:=fun e=>by have:=h4.nil_iff.2 e; subst this; simp at hn
  have hb:((ws.length:Int) == 0)=false:=beq_eq_false_iff_ne.2 (by omega)
  cases neg
  ·have hs:x.sign=1:=Int.sign_eq_one_of_pos (by have:=h4.neg_iff; simp at this; omega)
   rw [hs]
   clear hne hs
   go_enter Tryz.func105,Tryz.ntmps105
   go_wp2
   go_ret
   exact ⟨rfl,rfl⟩
  ·have hs:x.sign = -1:=Int.sign_eq_neg_one_of_neg (h4.neg_iff.1 rfl)
   rw [hs]
   clear hne hs
   go_enter Tryz.func105,Tryz.ntmps105
   go_wp2
   go_ret
   exact ⟨rfl,rfl⟩
theorem Norm.sg {neg:Bool} {ws:List Int} {x:Int} (h:Norm neg ws x):sg neg (val ws)=x:=h.eq.symm
theorem Norm.sgAbs {neg:Bool} {ws:List Int} {x:Int} (h:Norm neg ws x):P.sg false (val ws)=x.natAbs:=by rw [h.val_eq]; rfl
theorem Norm.sgNeg {neg:Bool} {ws:List Int} {x:Int} (h:Norm neg ws x):P.sg (!neg) (val ws) = -x:=by
  have:=h.eq
  unfold P.sg
  cases neg<;>simp at this ⊢<;>omega
def big:Nat:=1099511627776
def Bd (n:Nat) (x:Int):Prop:=x.natAbs<2^n
theorem Norm.small {neg:Bool} {ws:List Int} {x:Int} (h:Norm neg ws x) {n:Nat} (hx:Bd n x) (hn:n≤big):ws.length≤34359738368:=by
  refine h.len hx ?_
  unfold big at hn; omega
theorem below_drew' (w:World):Below w.heap.size w w.drew:=below_drew (Below.refl _ _)
theorem keepCell {w w1 w2:World} {b o b' o':Nat} {u:Value} (h1:w.cell? ⟨b',o',none⟩=some u) (hb1:Below w.heap.size w w1) (hu:Upd w1 w2 b o (o+2)) (hz:Slot w1 b o) (hd:b'≠b∨o'<o∨o+2≤o'):w2.cell? ⟨b',o',none⟩=some u:=by
  have hlt:=World.block_lt_of_cell? w _ h1
  have h2:=(hb1.cell (p:=⟨b',o',none⟩) hlt).trans h1
  by_cases e:b'=b
  · subst e
    obtain ⟨cs,t,hb,_⟩:=hz
    obtain ⟨c1,hb2,s1,e1⟩:=hu.same cs t hb
    rw [←h2,blk_cell hb,blk_cell hb2]
    exact e1 _ (by omega)
  · rw [←h2]
    exact World.cell?_of_block (w:=w1) (hu.other b' (by have:=hb1.size; have:b'<w.heap.size:=hlt; omega) e)
theorem set_calls (b o b' o':Nat) (x:Int) (w:World) (hz:Slot w b o) (hx:IntAt w b' o' x) (hd:b'≠b∨o'+2≤o∨o+2≤o') {n:Nat} (hs:Bd n x) (hn:n≤big) :
    Calls Tryz.prog 202 #[.pointer (some ⟨b,o,none⟩),.pointer (some ⟨b',o',none⟩)] w fun e w'=>e = .returned (.pointer (some ⟨b,o,none⟩))∧IntAt w' b o x∧Upd w w' b o (o+2):=by
  obtain ⟨neg,A,c,ws,h1,h2,h3,h4⟩:=hx.out
  have hl:ws.length≤34359738368:=h4.small hs hn
  have hlt:=hx.lt
  clear hs
  go_enter Tryz.func202,Tryz.ntmps202
  go_wp2_with fail
  go_region_held3 (fun w'=>w'.cell? ⟨b',o',none⟩=some (.bool neg)∧w'.cell? ⟨b',o'+1,none⟩=some (.slice A ws.length c))
    (first
      | go_keep
      | exact ⟨keepCell h1 ((below_drew' w).trans hb1) (Upd.refl _ b o (o+2)) ((hz.upd (Upd.of_below ((below_drew' w).trans hb1) 0 0 0))) (by omega),keepCell h2 ((below_drew' w).trans hb1) (Upd.refl _ b o (o+2)) ((hz.upd (Upd.of_below ((below_drew' w).trans hb1) 0 0 0))) (by omega)⟩
      | exact ⟨keepCell h1 ((below_drew' w).trans hb1) hu2 (hz.upd (Upd.of_below ((below_drew' w).trans hb1) 0 0 0)) (by omega),keepCell h2 ((below_drew' w).trans hb1) hu2 (hz.upd (Upd.of_below ((below_drew' w).trans hb1) 0 0 0)) (by omega)⟩)
    ((first
      | (go_simp; go_at_call 188; refine (clone_calls A c ws _ (h3.below (below_drew' _)) (by omega)).mono ?_; rintro e w1 ⟨A',c',rfl,hw1,hb1⟩)
      | (go_simp; go_at_call 187; refine (put_calls b o neg A' c' ws _ (hz.upd (Upd.of_below ((below_drew' w).trans hb1) 0 0 0)) hw1 h4.wd).mono ?_; rintro e w2 ⟨rfl,hx2,hu2⟩)))
  rw [h4.sg] at hx2
  go_wp2
  go_ret
  exact ⟨rfl,hx2,((Upd.of_below (below_drew' w) _ _ _).trans (Upd.of_below hb1 _ _ _)).trans hu2⟩
theorem neg_calls (b o b' o':Nat) (x:Int) (w:World) (hz:Slot w b o) (hx:IntAt w b' o' x) {n:Nat} (hs:Bd n x) (hn:n≤big) :
    Calls Tryz.prog 193 #[.pointer (some ⟨b,o,none⟩),.pointer (some ⟨b',o',none⟩)] w fun e w'=>e = .returned (.pointer (some ⟨b,o,none⟩))∧IntAt w' b o (-x)∧Upd w w' b o (o+2):=by
  obtain ⟨neg,A,c,ws,h1,h2,h3,h4⟩:=hx.out
  have hl:ws.length≤34359738368:=h4.small hs hn
  have hlt:=hx.lt
  clear hs
  go_enter Tryz.func193,Tryz.ntmps193
  go_wp2_with fail
  go_region_with ((first
      | (go_simp; go_at_call 188; refine (clone_calls A c ws _ (h3.below (below_drew' _)) (by omega)).mono ?_; rintro e w1 ⟨A',c',rfl,hw1,hb1⟩; have g1:=(((below_drew' w).trans hb1).cell (p:=⟨b',o',none⟩) hlt).trans h1)
      | (go_simp; go_at_call 187; refine (put_calls b o (!neg) A' c' ws _ (hz.upd (Upd.of_below ((below_drew' w).trans hb1) 0 0 0)) hw1 h4.wd).mono ?_; rintro e w2 ⟨rfl,hx2,hu2⟩)))
  all_goals
    rw [h4.sgNeg] at hx2
    go_wp2
    go_ret
    exact ⟨rfl,hx2,((Upd.of_below (below_drew' w) _ _ _).trans (Upd.of_below hb1 _ _ _)).trans hu2⟩
theorem abs_calls (b o b' o':Nat) (x:Int) (w:World) (hz:Slot w b o) (hx:IntAt w b' o' x) {n:Nat} (hs:Bd n x) (hn:n≤big) :
    Calls Tryz.prog 103 #[.pointer (some ⟨b,o,none⟩),.pointer (some ⟨b',o',none⟩)] w fun e w'=>e = .returned (.pointer (some ⟨b,o,none⟩))∧IntAt w' b o x.natAbs∧Upd w w' b o (o+2):=by
  obtain ⟨neg,A,c,ws,h1,h2,h3,h4⟩:=hx.out
  have hl:ws.length≤34359738368:=h4.small hs hn
  clear hs
  go_enter Tryz.func103,Tryz.ntmps103
  go_wp2_with fail
  refine (clone_calls A c ws _ h3 (by omega)).mono ?_
  rintro e w1 ⟨A',c',rfl,hw1,hb1⟩
  go_wp2_with fail
  refine (put_calls b o false A' c' ws _ (hz.upd (Upd.of_below hb1 0 0 0)) hw1 h4.wd).mono ?_
  rintro e w2 ⟨rfl,hx2,hu2⟩
  rw [h4.sgAbs] at hx2
  go_wp2
  go_ret
  exact ⟨rfl,hx2,(Upd.of_below hb1 _ _ _).trans hu2⟩
end Go.Proofs.YtglaeambknhjlaaGreatDoor.P
end
section
namespace Go.Proofs.YtglaeambknhjlaaGreatDoor.P
open Go.RowKit Go.Proofs.YtglaeambknhjlaaGreatDoorW.PrintWords Go.Proofs.YtglaeambknhjlaaGreatDoorW.PrintLast Go.Proofs.YtglaeambknhjlaaGreatDoorW.PrintMore
attribute [local go_sem] max2_int min2_int max_two min_two max_three min_three max_four min_four
def errW:Option Int→Value
 | none => .nilIface
 | some c => .iface 0 (.int .i64 c)
theorem errW_none:errW none = .nilIface:=rfl
theorem errW_some (c:Int):errW (some c) = .iface 0 (.int .i64 c):=rfl
theorem info3:(Tryz.prog.info? 3).map (fun i=>(i.zero,i.size,i.bytes))=some (some (.int .i64 0),1,8):=by kernel_rfl
theorem info5:(Tryz.prog.info? 5).map (fun i=>(i.zero,i.size,i.bytes))=some (some (.int .u8 0),1,1):=by kernel_rfl
theorem info9:(Tryz.prog.info? 9).map (fun i=>(i.zero,i.size,i.bytes))=some (some (.string ⟨#[]⟩),1,16):=by kernel_rfl
theorem info171:(Tryz.prog.info? 171).map (fun i=>(i.zero,i.size,i.bytes))=some (some (.int .u32 0),1,4):=by kernel_rfl
def rd_L4 (xs:List (List ByteArray)) (i:Int):(List ByteArray):=xs.getD i.toNat ([]:List ByteArray)
theorem at_L4 {w:World} {A:Option Addr} {n:Nat} {xs:List (List ByteArray)} (h:Kd.C (Kd.slice 9 Kd.string) w A n xs) (i:Int) (h0:0≤i) (h1:i<n):∃ ad A0 c0,A=some ad∧w.cell? (ad.add i.toNat)=some (.slice A0 (rd_L4 xs i).length c0)∧(rd_L4 xs i).length≤c0∧Kd.string.C w A0 (rd_L4 xs i).length (rd_L4 xs i):=by
 obtain ⟨ad,c,e,_,hK,hc0⟩:=Kd.C_get h ([]:List ByteArray) i h0 h1
 have hc:∀ j u,c[j]? = some u→w.cell? (ad.add (i.toNat*1+j))=some u:=hc0
 obtain ⟨A0,c0,rfl,l0,g0⟩:=hK
 exact ⟨ad,A0,c0,e,by have hq:=hc 0 _ rfl; rwa [Nat.mul_one,Nat.add_zero] at hq,l0,g0⟩
end Go.Proofs.YtglaeambknhjlaaGreatDoor.P
end
