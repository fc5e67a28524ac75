/- Texts under the proof, joined by a program (prune.py): STab2, QTabColW, QTabOut, QGridIn. -/
import Derived.Test.YtglaeambknhjlaaGreatDoorCShowTable01
import Derived.Deep.CutRange
import Derived.Test.YtglaeambknhjlaaGreatDoorRows
import Derived.WalkKit
import Derived.ProofKit
import Derived.Deep.Strs
set_option linter.unusedVariables false
set_option linter.unusedSimpArgs false
set_option exponentiation.threshold 20001
set_option maxHeartbeats 8000000
set_option maxRecDepth 100000
section
namespace Go.Proofs.YtglaeambknhjlaaGreatDoor.Q
open Go.RowKit Go.Proofs.YtglaeambknhjlaaGreatDoorW.PrintWords
theorem rd_nat (W:List Int) (q:Nat):rd W (q:Int)=W.getD q 0:=by unfold rd; rw [Int.toNat_natCast]
theorem rd_grow (W:List Int) (k q:Nat):rd (wGrow W k) (q:Int)=rd W (q:Int):=by
 rw [rd_nat,rd_nat]
 unfold wGrow
 split
 ·rw [List.getD_eq_getElem?_getD,List.getD_eq_getElem?_getD]
  rcases Nat.lt_trichotomy q W.length with h|h|h
  ·rw [List.getElem?_append_left h]
  ·subst h; simp
  ·rw [List.getElem?_eq_none (by simp; omega),List.getElem?_eq_none (by omega)]
 ·rfl
theorem rd_step (W:List Int) (k q:Nat) (s:ByteArray) (hk:k≤W.length):rd (wStep W k s) (q:Int)=if q=k then max (rd W (k:Int)) s.size else rd W (q:Int):=by
 have h:=wGrow_len W k hk
 unfold wStep
 rw [rd_grow W k k,rd_nat]
 by_cases hq:q=k
 ·subst hq
  rw [if_pos rfl,List.getD_eq_getElem?_getD,List.getElem?_set_self h.1]; rfl
 ·rw [if_neg hq,List.getD_eq_getElem?_getD,List.getElem?_set_ne (fun e=>hq e.symm),←List.getD_eq_getElem?_getD,←rd_nat,rd_grow]
theorem wRow_rd {R:List (List ByteArray)} (hz:∀ i k,(ce R i k).size≤1048576) (W:List Int) (i:Nat) (hW:∀ q:Nat,0≤rd W (q:Int)∧rd W (q:Int)≤1048576):∀ k,(∀ q:Nat,rd W (q:Int)≤rd (wRow R W i k) (q:Int))∧(∀ q:Nat,0≤rd (wRow R W i k) (q:Int)∧rd (wRow R W i k) (q:Int)≤1048576)∧∀ q:Nat,q<k→((ce R i q).size:Int)≤rd (wRow R W i k) (q:Int)
 | 0=>⟨fun q=>Int.le_refl _,hW,fun q h=>absurd h (Nat.not_lt_zero _)⟩
 | k+1=>by
  obtain ⟨h1,h2,h3⟩:=wRow_rd hz W i hW k
  have hs:=fun q=>rd_step (wRow R W i k) k q (ce R i k) (wRow_len R W i k)
  have hk:=hz i k
  refine ⟨fun q => ?_,fun q => ?_,fun q hq => ?_⟩
  ·have a:=h1 q
   show _≤rd (wStep (wRow R W i k) k (ce R i k)) (q:Int)
   rw [hs q]
   split
   ·rename_i e; subst e; omega
   ·exact a
  ·have a:=h2 q
   have b:=h2 k
   show 0≤rd (wStep (wRow R W i k) k (ce R i k)) (q:Int)∧rd (wStep (wRow R W i k) k (ce R i k)) (q:Int)≤1048576
   rw [hs q]
   split
   ·omega
   ·exact a
  ·show _≤rd (wStep (wRow R W i k) k (ce R i k)) (q:Int)
   rw [hs q]
   split
   ·rename_i e; subst e; omega
   ·exact h3 q (by omega)
theorem wAll_rd {R:List (List ByteArray)} (hz:∀ i k,(ce R i k).size≤1048576):∀ i,(∀ q:Nat,0≤rd (wAll R i) (q:Int)∧rd (wAll R i) (q:Int)≤1048576)∧∀ r q:Nat,r<i→q<(gd R r).length→((ce R r q).size:Int)≤rd (wAll R i) (q:Int)
 | 0=>⟨fun q=>by rw [rd_nat]; simp [wAll],fun r q h=>absurd h (Nat.not_lt_zero _)⟩
 | i+1=>by
  obtain ⟨h1,h2⟩:=wAll_rd hz i
  obtain ⟨a1,a2,a3⟩:=wRow_rd hz (wAll R i) i h1 (gd R i).length
  refine ⟨a2,fun r q hr hq => ?_⟩
  rcases Nat.lt_or_ge r i with h|h
  ·exact Int.le_trans (h2 r q h hq) (a1 q)
  ·obtain rfl:r=i:=by omega
   exact a3 q hq
def cln (R:List (List ByteArray)) (W:List Int) (r:Nat):Nat→Int
 | 0=>0
 | k+1=>cln R W r k+(if (k:Int)<((gd R r).length:Int)-1 then rd W (k:Int)+2 else ((ce R r k).size:Int))
def tot (R:List (List ByteArray)) (W:List Int):Nat→Int
 | 0=>0
 | i+1=>tot R W i+cln R W i (gd R i).length+1
theorem cln_le {R:List (List ByteArray)} {W:List Int} (hz:∀ i k,(ce R i k).size≤1048576) (hW:∀ q:Nat,0≤rd W (q:Int)∧rd W (q:Int)≤1048576) (r:Nat):∀ k:Nat,0≤cln R W r k∧cln R W r k≤k*1048578
 | 0=>⟨Int.le_refl _,Int.le_refl _⟩
 | k+1=>by
  have h:=cln_le hz hW r k
  have a:=hW k
  have b:=hz r k
  unfold cln
  split<;>omega
theorem tot_le {R:List (List ByteArray)} {W:List Int} (hz:∀ i k,(ce R i k).size≤1048576) (hW:∀ q:Nat,0≤rd W (q:Int)∧rd W (q:Int)≤1048576) (hc:∀ i,(gd R i).length≤100):∀ i:Nat,0≤tot R W i∧tot R W i≤i*104857801
 | 0=>⟨Int.le_refl _,Int.le_refl _⟩
 | i+1=>by
  have h:=tot_le hz hW hc i
  have a:=cln_le hz hW i (gd R i).length
  have b:=hc i
  unfold tot
  omega
theorem tot_mono {R:List (List ByteArray)} {W:List Int} (hz:∀ i k,(ce R i k).size≤1048576) (hW:∀ q:Nat,0≤rd W (q:Int)∧rd W (q:Int)≤1048576) (i:Nat):∀ d:Nat,tot R W i≤tot R W (i+d)
 | 0=>Int.le_refl _
 | d+1=>by
  have h:=tot_mono hz hW i d
  have a:=cln_le hz hW (i+d) (gd R (i+d)).length
  show _≤tot R W (i+d)+cln R W (i+d) (gd R (i+d)).length+1
  omega
def ctx (R:List (List ByteArray)) (W:List Int) (r:Nat):Nat→List Int
 | 0 => []
 | k+1=>ctx R W r k++bytesOf (ce R r k)++(if (k:Int)<((gd R r).length:Int)-1 then List.replicate (rd W (k:Int)+2-(ce R r k).size).toNat 32 else [])
def ttx (R:List (List ByteArray)) (W:List Int):Nat→List Int
 | 0 => []
 | i+1=>ttx R W i++ctx R W i (gd R i).length ++ [10]
theorem ctx_len {R:List (List ByteArray)} {W:List Int} {r:Nat} (hs:∀ q:Nat,q<(gd R r).length→((ce R r q).size:Int)≤rd W (q:Int)):∀ k:Nat,k≤(gd R r).length→((ctx R W r k).length:Int)=cln R W r k
 | 0,_=>rfl
 | k+1,h=>by
  have ih:=ctx_len hs k (by omega)
  have a:=hs k (by omega)
  unfold ctx cln
  rw [List.length_append,List.length_append,bytesOf_length]
  split
  ·rw [List.length_replicate]; omega
  ·simp; omega
theorem ttx_len {R:List (List ByteArray)} {W:List Int} (hs:∀ r q:Nat,q<(gd R r).length→((ce R r q).size:Int)≤rd W (q:Int)):∀ i:Nat,((ttx R W i).length:Int)=tot R W i
 | 0=>rfl
 | i+1=>by
  have ih:=ttx_len hs i
  have a:=ctx_len (hs i) (gd R i).length (Nat.le_refl _)
  unfold ttx tot
  rw [List.length_append,List.length_append]
  simp; omega
def okc (s:ByteArray):Prop:=∀ i:Nat,i<s.size→32≤bt s (i:Int)
noncomputable instance (s:ByteArray):Decidable (okc s):=Classical.propDecidable _
def okR (R:List (List ByteArray)):Prop:=∀ r k:Nat,r<R.length→k<(gd R r).length→okc (ce R r k)
noncomputable instance (R:List (List ByteArray)):Decidable (okR R):=Classical.propDecidable _
def fewC (R:List (List ByteArray)):Prop:=∀ r:Nat,r<R.length→(gd R r).length≤100
noncomputable instance (R:List (List ByteArray)):Decidable (fewC R):=Classical.propDecidable _
noncomputable def tabF (R:List (List ByteArray)):ByteArray×Int:=
 if 1000<R.length∨¬ fewC R then (⟨#[]⟩,4)
 else if 65536<tot R (wAll R R.length) R.length then (⟨#[]⟩,4)
 else if ¬ okR R then (⟨#[]⟩,3)
 else (strOfNums (ttx R (wAll R R.length) R.length),0)
theorem gd_out {R:List (List ByteArray)} {i:Nat} (h:R.length≤i):gd R i = []:=by
 unfold gd
 rw [List.getD_eq_getElem?_getD,List.getElem?_eq_none h]; rfl
theorem few_all {R:List (List ByteArray)} (h:fewC R) (i:Nat):(gd R i).length≤100:=by
 rcases Nat.lt_or_ge i R.length with h1|h1
 ·exact h i h1
 ·rw [gd_out h1]; exact Nat.zero_le _
theorem size_all {R:List (List ByteArray)} (hz:∀ i k,(ce R i k).size≤1048576):∀ r q:Nat,q<(gd R r).length→((ce R r q).size:Int)≤rd (wAll R R.length) (q:Int):=fun r q hq=>by
 rcases Nat.lt_or_ge r R.length with h1|h1
 ·exact (wAll_rd hz R.length).2 r q h1 hq
 ·rw [gd_out h1] at hq; exact absurd hq (Nat.not_lt_zero _)
end Go.Proofs.YtglaeambknhjlaaGreatDoor.Q
end
section
namespace Go.Proofs.YtglaeambknhjlaaGreatDoor.Q
open Go.RowKit Go.Proofs.YtglaeambknhjlaaGreatDoorW.PrintWords Go.Proofs.YtglaeambknhjlaaGreatDoorW.PrintLast Go.Proofs.YtglaeambknhjlaaGreatDoorW.PrintMore Go.Maps
attribute [local go_sem] max2_int min2_int max_two min_two
theorem infoCs:(Tryz.prog.info? 99).map (fun i=>(i.zero,i.size,i.bytes))=some (some (.agg #[.map none]),1,8):=by kernel_rfl
theorem infoIn:(Tryz.prog.info? 3).map (fun i=>(i.zero,i.size,i.bytes))=some (some (.int .i64 0),1,8):=by kernel_rfl
abbrev Grid (w:World) (A:Option Addr) (R:List (List ByteArray)):Prop:=Kd.C (Kd.slice 9 Kd.string) w A R.length R
theorem grid_at {w:World} {A:Option Addr} {R:List (List ByteArray)} (h:Grid w A R) {i:Nat} (hi:i<R.length):∃ ad B c,A=some ad∧w.cell? (ad.add i)=some (.slice B (gd R i).length c)∧(gd R i).length≤c∧Kd.C Kd.string w B (gd R i).length (gd R i):=by
 obtain ⟨ad,c,rfl,hl,⟨B,c',rfl,hc,hC⟩,hu⟩:=Kd.C_get h [] (i:Int) (by omega) (by omega)
 refine ⟨ad,B,c',rfl,?_,hc,hC⟩
 have:=hu 0 _ rfl
 rw [Int.toNat_natCast,show i*(Kd.slice 9 Kd.string).sz+0=i from Nat.mul_one i] at this
 exact this
theorem cell_at {w:World} {B:Option Addr} {row:List ByteArray} (h:Kd.C Kd.string w B row.length row) {k:Nat} (hk:k<row.length):∃ ad,B=some ad∧w.cell? (ad.add k)=some (.string (row.getD k ByteArray.empty)):=by
 obtain ⟨ad,rfl,hc⟩:=Kd.at_string h (k:Int) (by omega) (by omega)
 rw [Int.toNat_natCast] at hc
 refine ⟨ad,rfl,hc.trans ?_⟩
 show some (Value.string (row.getD (k:Int).toNat ByteArray.empty))=_
 rw [Int.toNat_natCast]
theorem CA.lay {w0 W w1:World} {vL vW:Value} {Wd:List Int} {bs:List Nat} {R:List (List ByteArray)} {i k n b:Nat} {s:ByteArray} {D:DataW Unit} (h:CA w0 W vL vW Wd bs (cel R i k) n) (hj:bs[k]? = some b) (hown:W.ownsMap Tryz.prog 3 (plainElem Tryz.prog 9) b n D)
  (hD:∀ (r:Nat) x,cel R i k k r=some x→D.atKey (.int .i64 (r:Int)) (.lit (.string [])) = .lit (.string x.data.toList)) (hown1:w1.ownsMap Tryz.prog 3 (plainElem Tryz.prog 9) b (n+1) (D.put (.int .i64 (i:Int)) (.lit (.string s.data.toList)))) (hg:W.grownBy w1 (some b)) (he:s=ce R i k) (hk:keyOf Tryz.prog 3 (.int .i64 (i:Int))=some (.int .i64 (i:Int))):CA w0 w1 vL vW Wd bs (cel R i (k+1)) (n+1):=by
 have hm1:MapF w1 b (n+1) (fun r=>if r=i then some (ce R i k) else cel R i k k r):=⟨_,hown1,fun r x hr=>by
  replace hr:(if r=i then some (ce R i k) else cel R i k k r)=some x:=hr
  by_cases hri:r=i
  ·rw [if_pos hri] at hr
   obtain rfl:ce R i k=x:=Option.some.inj hr
   subst hri
   rw [atKey_put_same hown.isMap (int_law.key hk),he]
  ·rw [if_neg hri] at hr
   rw [atKey_put_other (key_ne hri)]
   exact hD r x hr⟩
 exact h.upd hj hm1 hg (Nat.le_succ _) (fun r x h=>cel_hit h) (fun j r x hj h=>cel_miss hj h)
def Cst (R:List (List ByteArray)) (w wr:World) (vL vW:Value) (i k:Nat):Prop:=∃ bs,CA w wr vL vW (wid R i k) bs (cel R i k) (i*101+k)∧bs.length=(wid R i k).length
theorem columns_calls (R:List (List ByteArray)) (A0:Option Addr) (c0:Nat) (w:World) (hR:Grid w A0 R) (hn:R.length≤1000) (hc:∀ i,(gd R i).length≤100) (hz:∀ i k,(ce R i k).size≤1048576) :
  Calls Tryz.prog 97 #[.slice A0 R.length c0] w fun e w'=>∃ vL vW,e = .returned (.tuple #[vL,vW])∧Cst R w w' vL vW R.length 0:=by
 have HR:=Lib.hid hR
 have HN:=Lib.hid hn
 have HC:=Lib.hid hc
 have HZ:=Lib.hid hz
 have H0:=Lib.hid (show Cst R w w (.slice none 0 0) (.slice none 0 0) 0 0 from ⟨[],CA.nil w _ _,rfl⟩)
 have hmm:=@run_makeMap Tryz.prog
 clear hR hc hz
 go_enter Tryz.func97,Tryz.ntmps97
 go_wp2
 go_loopw [12,4,5] (fun v12 v4 v5 wr=>∃ i:Nat,i≤R.length∧v12 = .int .i64 i∧Hid (Cst R w wr v4 v5 i 0)) (fun v12 _ _ _=>R.length-(intOf v12).toNat)
 case atStart=>exact ⟨0,Nat.zero_le _,by go_num,H0⟩
 case round =>
  obtain ⟨i,hi,rfl,HS⟩:=hrel
  clear H0
  by_cases hil:i<R.length
  ·obtain ⟨ad,B,cB,rfl,hcell,hcB,hCB⟩:=grid_at (Kd.C_below HR.out (by obtain ⟨bs,h,_⟩:=HS.out; exact h.below)) hil
   have HCB:=Lib.hid hCB
   have hl100:=HC.out i
   have HWR:=Lib.hid (show ∀ wx vL vW k,Cst R w wx vL vW i k→Below w.heap.size w wx from fun wx vL vW k h=>by obtain ⟨bs,h,_⟩:=h; exact h.below)
   have hCw:Kd.C Kd.string w B (gd R i).length (gd R i):=by
    obtain ⟨ad',B',c',e1,e2,e3,e4⟩:=grid_at HR.out hil
    have hb:=HWR.out _ _ _ _ HS.out
    have e5:=World.cell?_of_block (a:=ad'.add i) (w:=w) (w':=wr) (hb.block _ (World.block_lt_of_cell? _ _ e2))
    obtain rfl:=Option.some.inj e1
    rw [e5,e2] at hcell
    injection hcell with hcell
    injection hcell with h1 _ _
    rw [←h1]; exact e4
   have HCW:=Lib.hid hCw
   clear hCB hCw
   go_wp2
   go_loopw [19,4,5] (fun v19 v4 v5 wr=>∃ k:Nat,k≤(gd R i).length∧v19 = .int .i64 k∧Hid (Cst R w wr v4 v5 i k)) (fun v19 _ _ _=>(gd R i).length-(intOf v19).toNat)
   case atStart=>exact ⟨0,Nat.zero_le _,by go_num,HS⟩
   case round =>
    clear HS
    obtain ⟨k,hk,rfl,HS⟩:=hrel
    by_cases hkl:k<(gd R i).length
    ·obtain ⟨ad2,rfl,hcell2⟩:=cell_at (Kd.C_below HCW.out (HWR.out _ _ _ _ HS.out)) hkl
     obtain ⟨bs,hca,hbl⟩:=HS.out
     have HCA:=Lib.hid hca
     have HBL:=Lib.hid hbl
     obtain ⟨A4,c4,e4⟩:=Kd.R_slice hca.l
     obtain ⟨A5,c5,e5⟩:=Kd.R_slice hca.w
     subst e4 e5
     clear hca hbl HS hcell HCB
     go_upto_if 27 with fail
     go_cut [4,5] from 20 to 53 (fun s4 s5 wx=>∃ bs',CA w wx s4 s5 (wGrow (wid R i k) k) bs' (cel R i k) (i*101+k)∧bs'.length=(wGrow (wid R i k) k).length)
     case first =>
      by_cases hnew:k=bs.length
      ·have hq:((k:Int) == (bs.length:Int))=true:=beq_iff_eq.2 (by omega)
       have hkw:k=(wid R i k).length:=by have:=HBL.out; omega
       have hg1:wGrow (wid R i k) k=wid R i k ++ [0]:=if_pos hkw
       have HNEW:=Lib.hid (show MapF (wr.alloc (.map #[] 0)) wr.heap.size (i*101+k) (cel R i k bs.length) from (MapF.new wr).imp (Nat.zero_le _) (fun r x hx=>by rw [cel_none (by have:=HBL.out; omega)] at hx; cases hx))
       have HNL:=Lib.hid (show bs.length≤100∧(wid R i k).length≤100 from by have:=HC.out i; have:=HBL.out; omega)
       have HSZ:=Lib.hid (show w.heap.size≤wr.heap.size from HCA.out.below.size)
       have HFR:=Lib.hid (show ∀ (q c:Nat),bs[q]? = some c→c≠wr.heap.size from fun q c hq2 e=>by have:=(HCA.out.maps q c hq2).2.lt; omega)
       have HK:=Lib.hid (And.intro hkw hg1)
       clear hkw hg1 hnew
       go_wp2_with (first
        | ((with_reducible refine gate_builtin (b:=.append) (xs:=#[.tmp 28,.tmp 31]) rfl ?_); at_builtin; refine Kd.R_append rowK (w0:=w) w.heap.size rfl (.tmp 28) (.tmp 31) 91 99 (.agg #[.map none]) 8 rfl Tryz.underlying91 infoCs (by rfl) (by decide) (by omega) (.slice A4 bs.length c4) bs wr.heap.size [.map (some wr.heap.size)] (fun _=>True) (fun _=>False) rfl (by rw [World.size_alloc]; rfl) ?aP (fun _ hk=>hk.elim) (fun _ _=>trivial) ?aO ?aB ?aS ?aL ?_; (case aP=>exact rfl); (case aO=>exact (HCA.out.move (below_alloc (Below.refl _ _) _)).l); (case aB=>exact (HCA.out.move (below_alloc (Below.refl _ _) _)).below); (case aS=>exact (HCA.out.move (below_alloc (Below.refl _ _) _)).below.size); (case aL=>have:=HNL.out; omega); intro v1 w1 ho hb hg hat; have HAL:=Lib.hid ((HCA.out.move (below_alloc (Below.refl _ _) (.map #[] 0))).appL HNEW.out HSZ.out HFR.out ho hb hg); clear ho hb hg hat)
        | ((with_reducible refine gate_builtin (b:=.append) (xs:=#[.tmp 33,.tmp 34]) rfl ?_); at_builtin; refine Kd.R_append (Kd.int .i64) (w0:=w) w.heap.size rfl (.tmp 33) (.tmp 34) 92 3 (.int .i64 0) 8 rfl Tryz.underlying92 infoIn (by rfl) (by decide) (by omega) (.slice A5 (wid R i k).length c5) (wid R i k) 0 [.int .i64 0] (fun _=>True) (fun _=>False) rfl rfl ?aP (fun _ hk=>hk.elim) (fun _ _=>trivial) ?aO ?aB ?aS ?aL ?_; (case aP=>exact rfl); (case aO=>exact HAL.out.w); (case aB=>exact HAL.out.below); (case aS=>exact HAL.out.below.size); (case aL=>have:=HNL.out; omega); intro v2 w2 ho hb hg hat; have HAW:=Lib.hid (HAL.out.appW ho hb hg); clear ho hb hg hat))
       go_meet
       refine ⟨bs ++ [wr.heap.size],?_,?_⟩
       ·rw [HK.out.2]; exact HAW.out
       ·rw [HK.out.2,List.length_append,List.length_append,HBL.out]; rfl
      ·have hq:((k:Int) == (bs.length:Int))=false:=beq_eq_false_iff_ne.2 (by omega)
       have hg1:wGrow (wid R i k) k=wid R i k:=if_neg (by have:=HBL.out; omega)
       go_wp2_with fail
       go_meet
       exact ⟨bs,by rw [hg1]; exact HCA.out,by rw [hg1]; exact HBL.out⟩
     case rest =>
      clear HCA HBL
      obtain ⟨bs2,hca,hbl⟩:=hcut
      have hwl:=wGrow_len (wid R i k) k (wRow_len R (wAll R i) i k)
      generalize hWg:wGrow (wid R i k) k=Wg at *
      obtain ⟨g4,c4',e4,_,_,_⟩:=Kd.R_form hca.l (by omega)
      obtain ⟨g5,c5',e5,_,_,_⟩:=Kd.R_form hca.w (by omega)
      subst e4 e5
      have hkb:k<bs2.length:=by omega
      obtain ⟨b,hb⟩:∃ b,bs2[k]? = some b:=⟨_,List.getElem?_eq_getElem hkb⟩
      have c1:=(Kd.R_cell (enc:=fun b=>Value.map (some b)) (h1:=fun _=>rfl) 0 hca.l (k:Int) (by omega) (by omega)).1
      have eb:rdOf 0 bs2 (k:Int)=b:=by
       show bs2.getD (k:Int).toNat 0=b
       rw [Int.toNat_natCast,List.getD_eq_getElem?_getD,hb]; rfl
      rw [eb,Int.toNat_natCast] at c1
      obtain ⟨hb0,D,hown,hD⟩:=hca.maps k b hb
      have HCA:=Lib.hid hca
      have HBL:=Lib.hid hbl
      have HWL:=Lib.hid hwl
      have HWG:=Lib.hid hWg
      have HD:=Lib.hid hD
      have HBB:=Lib.hid hb
      have he:(gd R i)[k]=ce R i k:=by
       unfold ce; rw [List.getD_eq_getElem?_getD,List.getElem?_eq_getElem hkl]; rfl
      have HE:=Lib.hid he
      have HSZ:=Lib.hid (show ((gd R i)[k]).size≤1048576 by rw [he]; exact HZ.out i k)
      clear he
      have hkw:k<Wg.length:=by omega
      have hki:=key_at (i:=i) (by have:=HN.out; omega)
      have HLT:=Lib.hid (show i*101+k<maxLen by have:=HN.out; have:=HC.out i; unfold maxLen; omega)
      clear hca hbl hwl hWg hD hb hb0 eb
      go_wp2_with (at_mapUpdate; refine wpList_mapUpdate_own _ rfl _ _ _ 97 rfl 3 9 int_law Tryz.underlying97 _ b (i*101+k) D rfl hown HLT.out _ _ _ rfl rfl hki _ [] (plainElem_string Tryz.underlying9 (by have h9:=HSZ.out; unfold maxLen; exact Nat.le_trans h9 (by decide))) ?_; intro w1 hown1 hgrow1; have hca1:=HCA.out.lay HBB.out hown HD.out hown1 hgrow1 HE.out hki; have c2:=Kd.R_cell (enc:=Value.int .i64) (h1:=fun _=>rfl) 0 hca1.w (k:Int) (by omega) (by omega); obtain ⟨c2,f2⟩:=c2; rw [Int.toNat_natCast] at c2 f2; have HCA1:=Lib.hid hca1; clear hca1 hown1 hgrow1)
      clear c1 c2 f2 hown hki
      have hs:(if rdOf 0 Wg (k:Int)<(((gd R i)[k]).size:Int) then (((gd R i)[k]).size:Int) else rdOf 0 Wg (k:Int))=max (rd Wg (k:Int)) ((ce R i k).size:Int):=by
       rw [HE.out]
       show (if rd Wg (k:Int)<_ then _ else rd Wg (k:Int))=_
       generalize rd Wg (k:Int)=a
       generalize ((ce R i k).size:Int)=c
       split<;>omega
      rw [hs]
      clear hs
      obtain ⟨ho,hg⟩:=Kd.R_put (enc:=Value.int .i64) (h1:=fun _=>rfl) HCA1.out.w (k:Int) (max (rd Wg (k:Int)) ((ce R i k).size:Int))
      rw [Int.toNat_natCast] at ho hg
      have hca3:=HCA1.out.appW ho (HCA1.out.below.setCell (Kd.R_base HCA1.out.w g5 rfl) _) hg
      have hset:Wg.set k (max (rd Wg (k:Int)) ((ce R i k).size:Int))=wid R i (k+1):=by
       rw [wid_succ]
       unfold wStep
       rw [HWG.out]
      have HF:=Lib.hid (show Cst R w _ _ _ i (k+1) from ⟨bs2,by rw [←hset]; exact hca3,by rw [←hset,List.length_set]; exact HBL.out⟩)
      clear ho hg hca3 hset HCA1 HCA
      go_roundw
      case rel=>exact ⟨k+1,by omega,by go_num,HF⟩
      case measure=>simp [intOf]; omega
    ·obtain rfl:k=(gd R i).length:=by omega
     have HF:=Lib.hid (show Cst R w wr u4 u5 (i+1) 0 from by
      obtain ⟨bs,h1,h2⟩:=HS.out
      exact ⟨bs,h1.imp (by have:=HC.out i; omega) (fun j r x h=>cel_next h),h2⟩)
     clear HS hcell HCB
     go_wp2
     go_roundw
     case rel=>exact ⟨i+1,by omega,by go_num,HF⟩
     case measure=>simp [intOf]; omega
  ·obtain rfl:i=R.length:=by omega
   go_wp2
   go_ret2
   exact ⟨_,_,rfl,HS.out⟩
end Go.Proofs.YtglaeambknhjlaaGreatDoor.Q
end
section
namespace Go.Proofs.YtglaeambknhjlaaGreatDoor.Q
open Go.RowKit Go.Proofs.YtglaeambknhjlaaGreatDoorW.PrintWords Go.Proofs.YtglaeambknhjlaaGreatDoorW.PrintLast Go.Proofs.YtglaeambknhjlaaGreatDoorW.PrintMore Go.Maps
abbrev RowB (w:World) (base:Nat) (v:Value) (xs:List Int):Prop:=(Kd.int .u8).R 5 w base (fun _=>True) v xs
theorem rowb_step {w w1:World} {base:Nat} {v:Value} {xs:List Int} (h:RowB w base v xs) (hm:∀ k,v.ownBlock=some k→k<w.heap.size→w1.heap[k]? = w.heap[k]?):RowB w1 base v xs:=
 Kd.R_mono (Kd.R_step (Kd.R_tight rfl h) (fun k hk hlt=>hm k hk.symm hlt)) (fun _ _=>trivial)
theorem CA.out {w0 W w1:World} {vL vW v:Value} {Wd xs:List Int} {bs:List Nat} {P:Nat→Nat→Option ByteArray} {n:Nat} (h:CA w0 W vL vW Wd bs P n) (hr:RowB W w0.heap.size v xs) (hg:W.grownBy w1 v.ownBlock) (hb:Below w0.heap.size w0 w1):CA w0 w1 vL vW Wd bs P n:=
 ⟨Kd.R_over h.l hr (fun q hq=>by (rw [List.mem_singleton.1 hq]; decide)) hg,Kd.R_over h.w hr (fun q hq=>by (rw [List.mem_singleton.1 hq]; decide)) hg,fun j b hj=>⟨(h.maps j b hj).1,(h.maps j b hj).2.kept hg (map_row (h.maps j b hj).2 hr)⟩,h.nd,hb⟩
def rem (R:List (List ByteArray)) (i k:Nat) (j r:Nat):Option ByteArray:=if (i<r∨(r=i∧k≤j))∧r<R.length∧j<(gd R r).length then some (ce R r j) else none
theorem rem_start {R:List (List ByteArray)} {j r:Nat} {x:ByteArray} (h:rem R 0 0 j r=some x):cel R R.length 0 j r=some x:=by
 unfold rem at h
 unfold cel
 by_cases hc:(0<r∨(r=0∧0≤j))∧r<R.length∧j<(gd R r).length
 ·rw [if_pos hc] at h; rw [if_pos ⟨Or.inl hc.2.1,hc.2.2⟩]; exact h
 ·rw [if_neg hc] at h; cases h
theorem rem_here {R:List (List ByteArray)} {i k:Nat} (hi:i<R.length) (hk:k<(gd R i).length):rem R i k k i=some (ce R i k):=if_pos ⟨Or.inr ⟨rfl,Nat.le_refl _⟩,hi,hk⟩
theorem rem_hit {R:List (List ByteArray)} {i k r:Nat} {x:ByteArray} (h:rem R i (k+1) k r=some x):(fun j=>if j=i then none else rem R i k k j) r=some x:=by
 show (if r=i then none else rem R i k k r)=some x
 unfold rem at *
 by_cases hc:(i<r∨(r=i∧k+1≤k))∧r<R.length∧k<(gd R r).length
 ·rw [if_pos hc] at h
  rw [if_neg (by omega),if_pos ⟨by omega,hc.2⟩]; exact h
 ·rw [if_neg hc] at h; cases h
theorem rem_miss {R:List (List ByteArray)} {i k j r:Nat} {x:ByteArray} (h:rem R i (k+1) j r=some x):rem R i k j r=some x:=by
 unfold rem at *
 by_cases hc:(i<r∨(r=i∧k+1≤j))∧r<R.length∧j<(gd R r).length
 ·rw [if_pos hc] at h
  rw [if_pos ⟨by omega,hc.2⟩]; exact h
 ·rw [if_neg hc] at h; cases h
theorem rem_next {R:List (List ByteArray)} {i j r:Nat} {x:ByteArray} (h:rem R (i+1) 0 j r=some x):rem R i (gd R i).length j r=some x:=by
 unfold rem at *
 by_cases hc:(i+1<r∨(r=i+1∧0≤j))∧r<R.length∧j<(gd R r).length
 ·rw [if_pos hc] at h
  rw [if_pos ⟨by omega,hc.2⟩]; exact h
 ·rw [if_neg hc] at h; cases h
structure Ost (R:List (List ByteArray)) (W:List Int) (bs:List Nat) (N:Nat) (wb wx:World) (vL vW v:Value) (i k:Nat):Prop where
 c:CA wb wx vL vW W bs (rem R i k) N
 o:RowB wx wb.heap.size v (ttx R W i++ctx R W i k)
 ok:∀ r q:Nat,(r<i∨(r=i∧q<k))→q<(gd R r).length→okc (ce R r q)
theorem Ost.take {R:List (List ByteArray)} {W:List Int} {bs:List Nat} {N b:Nat} {wb wx w1:World} {vL vW v:Value} {i k:Nat} (h:Ost R W bs N wb wx vL vW v i k) (hj:bs[k]? = some b) (hm:MapF w1 b N (fun j=>if j=i then none else rem R i k k j)) (hg:wx.grownBy w1 (some b)) :
  CA wb w1 vL vW W bs (rem R i (k+1)) N∧RowB w1 wb.heap.size v (ttx R W i++ctx R W i k):=by
 refine ⟨h.c.upd hj hm hg (Nat.le_refl _) (fun r x h=>rem_hit h) (fun j r x hj h=>rem_miss h),rowb_step h.o (fun q hq hlt=>hg.block q hlt (fun e => ?_))⟩
 exact map_row (h.c.maps k b hj).2 h.o (by rw [hq]; exact e.symm)
theorem Ost.move {R:List (List ByteArray)} {W:List Int} {bs:List Nat} {N:Nat} {wb wx w1:World} {vL vW v:Value} {i k:Nat} (h:Ost R W bs N wb wx vL vW v i k) (hb:Below wx.heap.size wx w1):Ost R W bs N wb w1 vL vW v i k:=
 ⟨h.c.move hb,Kd.R_below h.o hb,h.ok⟩
theorem Ost.next {R:List (List ByteArray)} {W:List Int} {bs:List Nat} {N:Nat} {wb wx w1:World} {vL vW v v1:Value} {i:Nat} (h:Ost R W bs N wb wx vL vW v i (gd R i).length) (ho:RowB w1 wb.heap.size v1 (ttx R W i++ctx R W i (gd R i).length ++ [10])) (hg:wx.grownBy w1 v.ownBlock) (hb:Below wb.heap.size wb w1):Ost R W bs N wb w1 vL vW v1 (i+1) 0:=by
 refine ⟨(h.c.out h.o hg hb).imp (Nat.le_refl _) (fun j r x h=>rem_next h),?_,fun r q hr hq => ?_⟩
 ·show RowB w1 wb.heap.size v1 (ttx R W i++ctx R W i (gd R i).length ++ [10] ++ [])
  rw [List.append_nil]; exact ho
 ·refine h.ok r q ?_ hq
  by_cases hri:r=i
  ·subst hri; exact Or.inr ⟨rfl,hq⟩
  ·exact Or.inl (by omega)
end Go.Proofs.YtglaeambknhjlaaGreatDoor.Q
end
section
namespace Go.Proofs.YtglaeambknhjlaaGreatDoor.Q
open Go.RowKit Go.Proofs.YtglaeambknhjlaaGreatDoorW.PrintWords Go.Deep
theorem blk_one {H:Type} (d:DataW H):1≤Rows.uptoBulk d:=by
 cases d with
 | lit l=>cases l<;>simp [Rows.uptoBulk]
 | _=>simp [Rows.uptoBulk]
theorem blk_len {H:Type} (l:List (DataW H)):l.length≤Rows.uptoBulkAll l:=by
 induction l with
 | nil=>simp [Rows.uptoBulkAll]
 | cons x r ih=>have:=blk_one x; simp only [Rows.uptoBulkAll,List.length_cons]; omega
theorem blk_part {H:Type} {d:DataW H} {l:List (DataW H)} (h:d∈l):Rows.uptoBulk d≤Rows.uptoBulkAll l:=by
 induction l with
 | nil=>cases h
 | cons x r ih =>
  simp only [Rows.uptoBulkAll]
  rcases List.mem_cons.1 h with rfl|e
  ·omega
  ·have:=ih e; omega
theorem cellsSt:Tryz.prog.cellsOf 9=1:=by kernel_rfl
theorem cellsSl:Tryz.prog.cellsOf 34=1:=by kernel_rfl
theorem texts_in {H:Type} {enc:TypeId×Value→H} {W:World} {base fuel:Nat} {sp:Nat→Bool} {held:Bool} {v:Value} {d:DataW H} {p:List MemPlace} (h:DataW.trod enc Tryz.prog W base sp held fuel 34 [v]=some (d,p)) (hB:Rows.uptoBulk d≤1048576) :
  ∃ y:Option Addr×Nat×List ByteArray,v = .slice y.1 y.2.2.length y.2.1∧y.2.2.length≤y.2.1∧Kd.string.C W y.1 y.2.2.length y.2.2∧y.2.2.length≤1048576∧∀ (q:Nat) x,y.2.2[q]? = some x→x.size≤1048576:=by
 rcases open_strs Tryz.underlying34 Tryz.underlying9 cellsSt h with ⟨hcs,hx⟩|⟨a,len,cap,m,Sx,hcs,_,hl,hm,hmm,hx,hcell⟩
 ·exact ⟨(none,0,[]),by simpa using hcs,Nat.le_refl _,Kd.C_nil _ _,Nat.zero_le _,fun q x hq=>by simp at hq⟩
 ·simp only [Prod.mk.injEq] at hx
  obtain ⟨rfl,_⟩:=hx
  simp only [Rows.uptoBulk] at hB
  have h9:=blk_len ((List.range len).map fun i=>(DataW.lit (.string (Sx i).data.toList):DataW H))
  rw [List.length_map,List.length_range] at h9
  have hle:len≤m:=by rw [hmm]; split<;>omega
  refine ⟨(some a,cap,(List.range len).map Sx),by simpa using hcs,by simpa using hl,⟨rfl,?_,fun _=>⟨a,rfl,fun j x hj=>⟨[.string x],rfl,rfl,fun i u hu => ?_⟩⟩⟩,by simp; omega,fun q x hq => ?_⟩
  ·rw [List.length_map,List.length_range]; omega
  ·obtain ⟨hl2,e⟩:=List.getElem?_eq_some_iff.1 hj
   rw [List.getElem_map,List.getElem_range] at e
   rw [List.length_map,List.length_range] at hl2
   obtain ⟨hi,e2⟩:=List.getElem?_eq_some_iff.1 hu
   obtain rfl:i=0:=by simp at hi; omega
   have e3:Value.string x=u:=e2
   subst e3 e
   rw [show j*Kd.string.sz+0=j from Nat.mul_one j]
   exact (hcell j (by omega)).1
  ·obtain ⟨hl2,e⟩:=List.getElem?_eq_some_iff.1 hq
   rw [List.getElem_map,List.getElem_range] at e
   rw [List.length_map,List.length_range] at hl2
   subst e
   have h8:=blk_part (show (DataW.lit (.string (Sx q).data.toList):DataW H)∈(List.range len).map fun i=>(DataW.lit (.string (Sx i).data.toList):DataW H) from List.mem_map.2 ⟨q,List.mem_range.2 hl2,rfl⟩)
   simp only [Rows.uptoBulk] at h8
   rw [←data_length]
   omega
theorem grid_of {H:Type} {enc:TypeId×Value→H} {W:World} {base:Nat} {sp:Nat→Bool} {held:Bool} {A:Option Addr} {n k:Nat} {d:DataW H} {p:List MemPlace} (h:DataW.Trod enc Tryz.prog W base sp held 33 (.slice A n k) d p) (hB:Rows.uptoBulk d≤1048576) :
  ∃ R:List (List ByteArray),R.length=n∧Grid W A R∧R.length≤k∧R.length≤1048576∧(∀ i,(gd R i).length≤1048576)∧∀ i q,(ce R i q).size≤1048576:=by
 obtain ⟨fuel,hf⟩:=h
 rcases open_slice1 Tryz.underlying33 cellsSl hf with ⟨hcs,hx⟩|⟨a,len,cap,m,nn,V,D,Pl,hcs,_,hl,hm,hmm,hx,hcell⟩
 ·simp [Value.cells] at hcs
  obtain ⟨rfl,rfl,rfl⟩:=hcs
  exact ⟨[],rfl,Kd.C_nil _ _,Nat.le_refl _,Nat.zero_le _,fun i=>by simp [gd],fun i q=>by simp [ce,gd]⟩
 ·simp [Value.cells] at hcs
  obtain ⟨rfl,rfl,rfl⟩:=hcs
  simp only [Prod.mk.injEq] at hx
  obtain ⟨rfl,_⟩:=hx
  simp only [Rows.uptoBulk] at hB
  have h9:=blk_len ((List.range n).map D)
  rw [List.length_map,List.length_range] at h9
  have hle:n≤m:=by rw [hmm]; split<;>omega
  have each:∀ r,r<n→∃ y:Option Addr×Nat×List ByteArray,V r = .slice y.1 y.2.2.length y.2.1∧y.2.2.length≤y.2.1∧Kd.string.C W y.1 y.2.2.length y.2.2∧y.2.2.length≤1048576∧∀ (q:Nat) x,y.2.2[q]? = some x→x.size≤1048576:=fun r hr=>by
   have h8:=blk_part (show D r∈(List.range n).map D from List.mem_map.2 ⟨r,List.mem_range.2 hr,rfl⟩)
   exact texts_in (hcell r (by omega)).2 (by omega)
  obtain ⟨y,hy⟩:=choose_lt each
  have hrow:∀ i,i<n→gd ((List.range n).map fun r=>(y r).2.2) i=(y i).2.2:=fun i hi=>by
   unfold gd
   rw [List.getD_eq_getElem?_getD,List.getElem?_map,List.getElem?_range hi]; rfl
  have hout:∀ i,¬ i<n→gd ((List.range n).map fun r=>(y r).2.2) i = []:=fun i hi=>by
   unfold gd
   rw [List.getD_eq_getElem?_getD,List.getElem?_eq_none (by simp; omega)]; rfl
  refine ⟨(List.range n).map fun r=>(y r).2.2,by simp,⟨rfl,by simp; omega,fun _=>⟨a,rfl,fun j row hj => ?_⟩⟩,by simpa using hl,by simp; omega,fun i => ?_,fun i q => ?_⟩
  ·obtain ⟨hl2,e⟩:=List.getElem?_eq_some_iff.1 hj
   rw [List.getElem_map,List.getElem_range] at e
   rw [List.length_map,List.length_range] at hl2
   obtain ⟨e1,e2,e3,_,_⟩:=hy j hl2
   subst e
   refine ⟨[V j],rfl,⟨(y j).1,(y j).2.1,by rw [e1],e2,e3⟩,fun i u hu => ?_⟩
   obtain ⟨hi,e4⟩:=List.getElem?_eq_some_iff.1 hu
   obtain rfl:i=0:=by simp at hi; omega
   have e5:V j=u:=e4
   subst e5
   rw [show j*(Kd.slice 9 Kd.string).sz+0=j from Nat.mul_one j]
   exact (hcell j (by omega)).1
  ·by_cases hi:i<n
   ·rw [hrow i hi]; exact (hy i hi).2.2.2.1
   ·rw [hout i hi]; exact Nat.zero_le _
  ·unfold ce
   by_cases hi:i<n
   ·rw [hrow i hi,List.getD_eq_getElem?_getD]
    cases hq:(y i).2.2[q]? with
    | none=>exact Nat.zero_le _
    | some x=>exact (hy i hi).2.2.2.2 q x hq
   ·rw [hout i hi]; exact Nat.zero_le _
end Go.Proofs.YtglaeambknhjlaaGreatDoor.Q
end
