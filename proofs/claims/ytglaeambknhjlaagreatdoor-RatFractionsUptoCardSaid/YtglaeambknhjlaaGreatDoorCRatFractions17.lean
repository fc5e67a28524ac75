/- Texts under the proof, joined by a program (prune.py): QRatBk, QRatChn, QBetween, QComp, Q214, Q218, Q219, Q215, QPure5, QRatSimple, QChainRef, QBackRef, QTexts. -/
import Derived.Test.YtglaeambknhjlaaGreatDoorCRatFractions09
import Derived.Test.YtglaeambknhjlaaGreatDoorCRatFractions16
import Derived.Test.YtglaeambknhjlaaGreatDoorCRatFractions14
import Derived.Test.YtglaeambknhjlaaGreatDoorCRatFractions15
import Derived.Test.YtglaeambknhjlaaGreatDoorCRatFractions11
import Derived.Test.YtglaeambknhjlaaGreatDoorCRatFractions13
import Derived.Deep.CutRange
import Derived.BigQuiet
set_option linter.unusedVariables false
set_option linter.unusedSimpArgs false
set_option exponentiation.threshold 20001
set_option maxHeartbeats 8000000
set_option maxRecDepth 100000
section
namespace Go.Proofs.ZQ
open Go.RowKit Go.Proofs.ZW.Wa Go.Proofs.ZP Go.Proofs.ZW.Wb Go.Proofs.ZW.Wc
theorem C_str {w:World} {A:Option Addr} {l:List ByteArray} (h:Kd.C Kd.string w A l.length l) {j:Nat} (hj:j<l.length):∃ ad,A=some ad∧w.cell? (ad.add j)=some (.string l[j]):=by
 obtain ⟨ad,he,hc⟩:=h.2.2 (by omega)
 obtain ⟨c',h1,h2,h3⟩:=hc j l[j] (List.getElem?_eq_getElem hj)
 have h2:c' = [.string l[j]]:=h2
 subst h2
 have h4:=h3 0 (.string l[j]) rfl
 rw [show j*Kd.string.sz+0=j from Nat.mul_one j] at h4
 exact ⟨ad,he,h4⟩
structure BSt (w wr:World) (g n:Nat) (ns:Nat→Int) (ds:List Nat):Prop where
 le:ds.length≤n
 blk:wr.heap[g]? = some (.cells (ptrs n ds).toArray 101 (0,0))
 at_:∀ j (h:j<ds.length),w.heap.size≤ds[j]∧g≠ds[j]∧IntAt wr ds[j] 0 (ns j)
 below:Below w.heap.size w wr
 ge:w.heap.size≤g
theorem BSt.below' {w wr w':World} {g n:Nat} {ns:Nat→Int} {ds:List Nat} (h:BSt w wr g n ns ds) (hb:Below wr.heap.size wr w'):BSt w w' g n ns ds where
 le:=h.le
 blk:=(hb.block _ (zas h.blk)).trans h.blk
 at_:=fun j hj=>by
  obtain ⟨h1,h2,h3⟩:=h.at_ j hj
  exact ⟨h1,h2,h3.below hb⟩
 below:=bthen h.below hb
 ge:=h.ge
theorem ptrs_set {n:Nat} {ds:List Nat} (h:ds.length<n) (d:Nat):(ptrs n ds).toArray.setIfInBounds ds.length (.pointer (some ⟨d,0,none⟩))=(ptrs n (ds ++ [d])).toArray:=by
 rw [List.setIfInBounds_toArray]
 congr 1
 rw [List.set_eq_take_append_cons_drop,if_pos (by rw [zbJ (Nat.le_of_lt h)]; exact h)]
 exact ptrs_snoc h d
theorem zc7 {wr:World} {g d j:Nat} {cs:Array Value} {v:Value} {x:Int} (hx:IntAt wr d 0 x) (hb:wr.heap[g]? = some (.cells cs 101 (0,0))) (hne:g≠d):IntAt (wr.setCell ⟨g,j,none⟩ v) d 0 x:=
 IntAt.same hx (Below.heap_setCell wr ⟨g,j,none⟩ v d (fun e=>hne e.symm)) (fun k cs' hk=>Below.heap_setCell wr ⟨g,j,none⟩ v k (by
  intro e
  change k=g at e
  subst e
  rw [hb] at hk
  injection hk with hk
  injection hk with _ hk
  exact absurd hk (by decide)))
theorem BSt.more {w wr:World} {g n:Nat} {ns:Nat→Int} {ds:List Nat} (h:BSt w wr g n ns ds) (hl:ds.length<n) (d:Nat) (hd:w.heap.size≤d) (hne:g≠d) (hx:IntAt wr d 0 (ns ds.length)):BSt w (wr.setCell ⟨g,ds.length,none⟩ (.pointer (some ⟨d,0,none⟩))) g n ns (ds ++ [d]) where
 le:=by simp; omega
 blk:=by rw [zat h.blk ds.length (.pointer (some ⟨d,0,none⟩)),ptrs_set hl]
 at_:=fun j hj=>by
  rw [List.length_append,List.length_singleton] at hj
  by_cases e:j<ds.length
  ·obtain ⟨h1,h2,h3⟩:=h.at_ j e
   rw [List.getElem_append_left e]
   exact ⟨h1,h2,zc7 h3 h.blk h2⟩
  ·have:j=ds.length:=by omega
   subst this
   rw [List.getElem_append_right (Nat.le_refl _)]
   simp only [Nat.sub_self,List.getElem_cons_zero]
   exact ⟨hd,hne,zc7 hx h.blk hne⟩
 below:=zag h.below h.ge
 ge:=h.ge
theorem infoPI:(Tryz.prog.info? 101).map (fun i=>(i.zero,i.size,i.bytes))=some (some (.pointer none),1,8):=by kernel_rfl
theorem BSt.start (w w0:World) (hb:Below w.heap.size w w0) (n:Nat) (ns:Nat→Int):BSt w (w0.alloc (.cells (madeCells #[Value.pointer none] n) 101)) w0.heap.size n ns [] where
 le:=Nat.zero_le _
 blk:=by rw [made_ptrs]; exact zay w0 _
 at_:=fun j hj=>by simp at hj
 below:=zaa hb _
 ge:=hb.size
theorem zb8 {n:Nat} {ds:List Nat} (h:ds.length<n):(ptrs n ds).toArray[ds.length]? = some (.pointer none):=by
 rw [List.getElem?_toArray]
 unfold ptrs
 rw [List.getElem?_append_right (by simp),List.length_map,Nat.sub_self,List.getElem?_replicate,if_pos (by omega)]
theorem zcJ {n:Nat} {ds:List Nat} {j:Nat} (h:j<ds.length):(ptrs n ds).toArray[j]? = some (.pointer (some ⟨ds[j],0,none⟩)):=by
 rw [List.getElem?_toArray]
 exact ptrs_at h
structure Bgd (l:List ByteArray) (ns:Nat→Int) (m:Nat):Prop where
 txt:∀ i (h:i<l.length),i<m→l[i]=wtext (ns i)∧(ns i).natAbs<10^600∧(0<i→1≤ns i)
theorem BSt.upd' {w wr w':World} {g n z lo hi:Nat} {ns:Nat→Int} {ds:List Nat} (h:BSt w wr g n ns ds) (hu:Upd wr w' z lo hi) (hz:w.heap.size≤z) (hg:g≠z) (hd:∀ j (h:j<ds.length),ds[j]≠z):BSt w w' g n ns ds where
 le:=h.le
 blk:=(hu.other _ (zas h.blk) hg).trans h.blk
 at_:=fun j hj=>by
  obtain ⟨h1,h2,h3⟩:=h.at_ j hj
  exact ⟨h1,h2,h3.upd hu (Or.inl (hd j hj))⟩
 below:=hu.new h.below hz
 ge:=h.ge
theorem BSt.apart {w wr:World} {g n:Nat} {ns:Nat→Int} {ds:List Nat} (h:BSt w wr g n ns ds):∀ j (h:j<ds.length),ds[j]≠wr.heap.size:=fun j hj e=>by
 obtain ⟨_,_,h3⟩:=h.at_ j hj
 have:=h3.lt
 omega
theorem BSt.cell {w wr:World} {g n:Nat} {ns:Nat→Int} {ds:List Nat} (h:BSt w wr g n ns ds) {j:Nat} (hj:j<ds.length):wr.cell? ⟨g,j,none⟩=some (.pointer (some ⟨ds[j],0,none⟩)):=(zaf h.blk j).trans (zcJ hj)
def suf (n:Nat) (ns:Nat→Int) (k:Nat):List Int:=((List.range n).drop k).map ns
theorem suf_cons {n:Nat} {ns:Nat→Int} {k:Nat} (h:k<n):suf n ns k=ns k :: suf n ns (k+1):=by
 unfold suf
 rw [List.drop_eq_getElem_cons (by rw [List.length_range]; exact h),List.map_cons,List.getElem_range]
theorem zc4 (n:Nat) (ns:Nat→Int) (k:Nat):(suf n ns k).length=n-k:=by unfold suf; simp
theorem suf_last {n:Nat} {ns:Nat→Int} {k:Nat} (h:k+1=n):suf n ns k = [ns k]:=by
 rw [suf_cons (by omega)]
 congr 1
 exact List.eq_nil_of_length_eq_zero (by rw [zc4]; omega)
theorem bck_suf {n:Nat} {ns:Nat→Int} {k:Nat} (h:k+1<n):bck (suf n ns k)=(ns k:Rat)+(bck (suf n ns (k+1)))⁻¹:=by
 rw [suf_cons (by omega),zdB _ (fun e=>by have:=zc4 n ns (k+1); rw [e] at this; simp at this; omega)]
theorem Bgd.ones {l:List ByteArray} {ns:Nat→Int} {k:Nat} (h:Bgd l ns l.length) (hk:0<k):Ones (suf l.length ns k):=by
 intro a ha
 unfold suf at ha
 obtain ⟨i,hi,rfl⟩:=List.mem_map.1 ha
 obtain ⟨j,hj,rfl⟩:=List.getElem_of_mem hi
 rw [List.getElem_drop,List.getElem_range]
 rw [List.length_drop,List.length_range] at hj
 exact (h.txt (k+j) (by omega) (by omega)).2.2 (by omega)
theorem Bgd.ne {l:List ByteArray} {ns:Nat→Int} {k:Nat} (h:Bgd l ns l.length) (hk:0<k) (hl:k<l.length):bck (suf l.length ns k)≠0:=fun e=>by
 have:=(bck_pos _ (fun e=>by have:=zc4 l.length ns k; rw [e] at this; simp at this; omega) (h.ones hk)).1
 rw [e] at this
 exact absurd this (by decide)
theorem bd_ns {x:Int} (h:x.natAbs<10^600):Bd 2000 x:=by
 unfold Bd
 have:10^600≤2^2000:=by decide
 omega
theorem Bgd.bd {l:List ByteArray} {ns:Nat→Int} (h:Bgd l ns l.length):∀ (m k:Nat),k+m+1=l.length→Bdr (2001*(m+1)) (bck (suf l.length ns k)):=by
 intro m
 induction m with
 | zero =>
  intro k hk
  rw [suf_last (by omega)]
  exact (Bdr.int (bd_ns (h.txt k (by omega) (by omega)).2.1) (by decide)).mono (by decide)
 | succ m ih =>
  intro k hk
  rw [bck_suf (by omega)]
  exact ((Bdr.int (bd_ns (h.txt k (by omega) (by omega)).2.1) (by decide)).add ((ih (k+1) (by omega)).inv (h.ne (by omega) (by omega)))).mono (by omega)
theorem back_yes (A:Option Addr) (c:Nat) (l:List ByteArray) (ns:Nat→Int) (w:World) (hr:Kd.C Kd.string w A l.length l) (hn:0<l.length) (hln:l.length≤100000000) (hg:Bgd l ns l.length) :
  Calls Tryz.prog 47 #[.slice A l.length c] w fun e w'=>e = .returned (.tuple #[.agg #[.string (toldR (bck ((List.range l.length).map ns))).1,.string (toldR (bck ((List.range l.length).map ns))).2.1],.int .i64 (toldR (bck ((List.range l.length).map ns))).2.2])∧Below w.heap.size w w':=by
 have hmk:=zdl (P:=Tryz.prog) 129 101 (.pointer none) 8 Tryz.underlying129 infoPI rfl (by decide) l.length (by omega)
 have hu112:=Tryz.underlying112
 have HC:=Lib.hid hr
 have HG:=Lib.hid hg
 have fr:=RbAt.new w ⟨#[]⟩ ⟨#[]⟩
 have hba:=zaa (Below.refl w.heap.size w) (.cells #[.string ⟨#[]⟩,.string ⟨#[]⟩] 23)
 have HS0:=Lib.hid (BSt.start w (w.alloc (.cells #[.string ⟨#[]⟩,.string ⟨#[]⟩] 23)) hba l.length ns)
 have HR0:=Lib.hid (fr.alloc (.cells (madeCells #[Value.pointer none] l.length) 101))
 have hgz:(w.alloc (.cells #[.string ⟨#[]⟩,.string ⟨#[]⟩] 23)).heap.size=w.heap.size+1:=World.size_alloc _ _
 rw [hgz] at HS0
 have hz0:((l.length:Int) == 0)=false:=beq_eq_false_iff_ne.2 (by omega)
 clear hr hg fr hba hgz
 go_enter Tryz.func47,Tryz.ntmps47
 go_wp2
 generalize (w.alloc (.cells #[.string ⟨#[]⟩,.string ⟨#[]⟩] 23)).alloc (.cells (madeCells #[Value.pointer none] l.length) 101)=W0 at *
 generalize hg:w.heap.size+1=g at *
 have HGG:=Lib.hid hg
 clear hg hmk
 go_loopw [18] (fun vi wr=>∃ (i:Nat) (ds:List Nat),i≤l.length∧vi = .int .i64 i∧Hid (ds.length=i)∧Hid (BSt w wr g l.length ns ds)∧Hid (RbAt wr w.heap.size ⟨#[]⟩ ⟨#[]⟩)) (fun vi _=>l.length-(intOf vi).toNat)
 case atStart=>exact ⟨0,[],Nat.zero_le _,rfl,Lib.hid rfl,HS0,HR0⟩
 case round =>
  obtain ⟨i,ds,hi,rfl,HL,HS,HR⟩:=hrel
  by_cases hin:i<l.length
  ·obtain ⟨ad,rfl,hcell⟩:=C_str (Kd.C_below HC.out HS.out.below) hin
   obtain ⟨g1,g2,g3⟩:=HG.out.txt i hin hin
   rw [g1] at hcell
   have hge:=HS.out.ge
   have hgl:=zas HS.out.blk
   have HG2:=Lib.hid g2
   have HG3:=Lib.hid g3
   clear g1 g2 g3
   by_cases hi0:i=0
   ·have hib:((i:Int) == 0)=true:=beq_iff_eq.2 (by omega)
    have hip:decide ((0:Int)<(i:Int))=false:=decide_eq_false (by omega)
    have hip2:((0:Int)<(i:Int))=False:=eq_false (by omega)
    have hip3:(0<i)=False:=eq_false (by omega)
    have hip4:((i:Int)≤0)=True:=eq_true (by omega)
    clear hi0
    go_wp2_with fail
    refine (zcj (ns i) _ HG2.out).mono ?_
    rintro e w1 ⟨D,rfl,hD,hx1,hb1⟩
    have HS1:=HS.out.below' hb1
    have hgd:g≠D:=by omega
    have hwd:w.heap.size≤D:=by omega
    have hdl:=HL.out
    have c0:w1.cell? ⟨g,i,none⟩=some (.pointer none):=by
     have h:=zb8 (n:=l.length) (ds:=ds) (by omega)
     rw [hdl] at h
     exact (zaf HS1.blk i).trans h
    have f0:=zae HS1.blk i
    have hM:=HS1.more (by omega) D hwd hgd (by rw [hdl]; exact hx1)
    rw [hdl] at hM
    have HM:=Lib.hid hM
    have HL2:=Lib.hid (show (ds ++ [D]).length=i+1 by rw [List.length_append,hdl]; rfl)
    have HD:=Lib.hid (zc7 (j:=i) (v:=.pointer (some ⟨D,0,none⟩)) hx1 HS1.blk hgd)
    have c1:(w1.setCell ⟨g,i,none⟩ (.pointer (some ⟨D,0,none⟩))).cell? ⟨g,i,none⟩=some (.pointer (some ⟨D,0,none⟩)):=by
     have hb:=HM.out.blk
     rw [(zaf hb i)]
     have:=zcJ (n:=l.length) (ds:=ds ++ [D]) (j:=i) (by rw [HL2.out]; omega)
     rw [this]
     have h9:(ds ++ [D])[i]'(by rw [HL2.out]; omega)=D:=by
      rw [List.getElem_append_right (by omega)]
      simp
     rw [h9]
    have HRB:=Lib.hid (show RbAt (w1.setCell ⟨g,i,none⟩ (.pointer (some ⟨D,0,none⟩))) w.heap.size ⟨#[]⟩ ⟨#[]⟩ from (Below.heap_setCell w1 ⟨g,i,none⟩ _ _ (by have:=HGG.out; show w.heap.size≠g; omega)).trans (HR.out.below hb1))
    clear hM hdl HS1 hb1 hx1 hD
    go_wp2
    go_roundw
    case rel=>exact ⟨i+1,ds ++ [D],by omega,by go_num,HL2,HM,HRB⟩
    case measure=>simp [intOf]; omega
   ·have hib:((i:Int) == 0)=false:=beq_eq_false_iff_ne.2 (by omega)
    have hip:decide ((0:Int)<(i:Int))=true:=decide_eq_true (by omega)
    have h1i:=HG3.out (by omega)
    have hxe:ns i=(((ns i).natAbs:Nat):Int):=by omega
    have hwt:wtext (ns i)=T (ns i).natAbs:=zaN (by omega)
    rw [hwt] at hcell
    have HN:=Lib.hid (fun W=>za9 (ns i).natAbs W HG2.out)
    have HXE:=Lib.hid hxe
    have HSG:=Lib.hid (show (ns i).sign≠0 from fun e=>by have:=Int.sign_eq_zero_iff_zero.1 e; omega)
    clear h1i hxe hwt
    go_wp2_with fail
    refine (HN.out _).mono ?_
    rintro e w1 ⟨D,rfl,hD,hx1,hb1⟩
    rw [←HXE.out] at hx1
    have HS1:=HS.out.below' hb1
    have hgd:g≠D:=by omega
    have hwd:w.heap.size≤D:=by omega
    have hdl:=HL.out
    have c0:w1.cell? ⟨g,i,none⟩=some (.pointer none):=by
     have h:=zb8 (n:=l.length) (ds:=ds) (by omega)
     rw [hdl] at h
     exact (zaf HS1.blk i).trans h
    have f0:=zae HS1.blk i
    have hM:=HS1.more (by omega) D hwd hgd (by rw [hdl]; exact hx1)
    rw [hdl] at hM
    have HM:=Lib.hid hM
    have HL2:=Lib.hid (show (ds ++ [D]).length=i+1 by rw [List.length_append,hdl]; rfl)
    have HD:=Lib.hid (zc7 (j:=i) (v:=.pointer (some ⟨D,0,none⟩)) hx1 HS1.blk hgd)
    have c1:(w1.setCell ⟨g,i,none⟩ (.pointer (some ⟨D,0,none⟩))).cell? ⟨g,i,none⟩=some (.pointer (some ⟨D,0,none⟩)):=by
     have hb:=HM.out.blk
     rw [(zaf hb i)]
     have:=zcJ (n:=l.length) (ds:=ds ++ [D]) (j:=i) (by rw [HL2.out]; omega)
     rw [this]
     have h9:(ds ++ [D])[i]'(by rw [HL2.out]; omega)=D:=by
      rw [List.getElem_append_right (by omega)]
      simp
     rw [h9]
    have HRB:=Lib.hid (show RbAt (w1.setCell ⟨g,i,none⟩ (.pointer (some ⟨D,0,none⟩))) w.heap.size ⟨#[]⟩ ⟨#[]⟩ from (Below.heap_setCell w1 ⟨g,i,none⟩ _ _ (by have:=HGG.out; show w.heap.size≠g; omega)).trans (HR.out.below hb1))
    clear hM hdl HS1 hb1 hx1 hD
    go_wp2_with fail
    refine (zaD D 0 (ns i) _ HD.out).mono ?_
    rintro e w3 ⟨rfl,rfl⟩
    have hsg:=HSG.out
    generalize (ns i).sign=sg at hsg ⊢
    go_wp2
    go_roundw
    case rel=>exact ⟨i+1,ds ++ [D],by omega,by go_num,HL2,HM,HRB⟩
    case measure=>simp [intOf]; omega
  ·obtain ⟨m,hm⟩:∃ m,l.length=m+1:=⟨l.length-1,by omega⟩
   obtain rfl:i=l.length:=by omega
   have hdl:=HL.out
   have hge:=HS.out.ge
   have hgl:=zas HS.out.blk
   have hmd:m<ds.length:=by omega
   obtain ⟨h1,h2,h3⟩:=HS.out.at_ m hmd
   have hcell:=HS.out.cell hmd
   have hap:=HS.out.apart
   generalize hdm:ds[m]=dm at h1 h2 h3 hcell
   have hba:=zaa (Below.refl wr.heap.size wr) (.cells #[.bool false,.slice none 0 0,.bool false,.slice none 0 0] 112)
   have hS1:=HS.out.below' hba
   have hZ:=(RatAt.new wr 112 (by decide)).slot
   have hR1:=HR.out.below hba
   have HX:=Lib.hid (h3.below hba)
   have c0:(wr.alloc (.cells #[.bool false,.slice none 0 0,.bool false,.slice none 0 0] 112)).cell? ⟨g,m,none⟩=some (.pointer (some ⟨dm,0,none⟩)):=bcell hba hcell
   have hw1:IntKind.i64.wrap ((l.length:Int)-1)=(m:Int):=by
    rw [show ((l.length:Int)-1)=(m:Int) by omega]
    rw [IntKind.wrap_i64]; omega
   have hw2:IntKind.i64.wrap ((l.length:Int)-2)=(m:Int)-1:=by
    rw [show ((l.length:Int)-2)=(m:Int)-1 by omega]
    rw [IntKind.wrap_i64]; omega
   have HS1:=Lib.hid hS1
   have HR1:=Lib.hid hR1
   have HZ1:=Lib.hid hZ
   have HAP:=Lib.hid hap
   have HBN:=Lib.hid (bd_ns (HG.out.txt m (by omega) (by omega)).2.1)
   have HM:=Lib.hid hm
   have HDL:=Lib.hid hdl
   have HW1:=Lib.hid hw1
   have hml:m<l.length:=by omega
   have hm1:(0:Int)≤(m:Int):=by omega
   have hgz:g≠wr.heap.size:=by omega
   have hwz:w.heap.size≠wr.heap.size:=by omega
   have hwz':w.heap.size≤wr.heap.size:=by omega
   clear hba hS1 hZ hR1 h3 hap hdm hm hdl hmd hi hin
   go_wp2_with fail
   refine (zaJ wr.heap.size dm 0 (ns m) _ HZ1.out HX.out HBN.out (by decide)).mono ?_
   rintro e w1 ⟨rfl,hz1,hu1⟩
   generalize hZe:wr.heap.size=Z at *
   have HS2:=Lib.hid (HS1.out.upd' hu1 hwz' hgz HAP.out)
   have HR2:=Lib.hid (show RbAt w1 w.heap.size ⟨#[]⟩ ⟨#[]⟩ from (hu1.other _ (zas HR1.out) hwz).trans HR1.out)
   have HZ2:=Lib.hid (show RatAt w1 Z (bck (suf l.length ns m)) by
    rw [suf_last (by have:=HM.out; omega)]
    exact hz1)
   clear hz1 hu1 HS1 HR1 HZ1 HX HS HR hZe hcell c0
   go_wp2
   go_loopw [8] (fun vi wr'=>∃ (k:Nat),k≤m∧vi = .int .i64 ((k:Int)-1)∧Hid (BSt w wr' g l.length ns ds)∧Hid (RbAt wr' w.heap.size ⟨#[]⟩ ⟨#[]⟩)∧Hid (RatAt wr' Z (bck (suf l.length ns k)))) (fun vi _=>(intOf vi+1).toNat)
   case atStart=>exact ⟨m,Nat.le_refl _,by go_num,HS2,HR2,HZ2⟩
   case round =>
    obtain ⟨k,hk,rfl,HS,HR,HZ⟩:=hrel
    by_cases hk0:k=0
    ·have hv:((k:Int)-1) = -1:=by omega
     rw [hv]
     have HK:=Lib.hid hk0
     have hne1:decide ((0:Int) ≤ -1)=false:=rfl
     have HBB:=Lib.hid (Bgd.bd HG.out m 0 (by have:=HM.out; omega))
     have HZ3:=Lib.hid (show RatAt wr Z (bck (suf l.length ns 0)) by have:=HZ.out; rw [HK.out] at this; exact this)
     clear hv hk0 HZ
     go_wp2_with fail
     refine (zcl Z (bck (suf l.length ns 0)) _ HZ3.out HBB.out (by unfold big; omega)).mono ?_
     rintro e w2 ⟨rfl,hb2⟩
     have HTT:Hid (toldR (bck ((List.range l.length).map ns))=toldR (bck (suf l.length ns 0))):=Lib.hid rfl
     generalize toldR (bck (suf l.length ns 0))=tt at HTT ⊢
     have hbk5:w2.heap[w.heap.size]? = some (Obj.cells #[.string ⟨#[]⟩,.string ⟨#[]⟩] 23 (0,0)):=(hb2.block _ (zas HR.out)).trans HR.out
     have hB5:=bthen HS.out.below hb2
     have cB0:=(zaf hbk5 0).trans (show _=some (Value.string ⟨#[]⟩) from rfl)
     have cB1:=(zaf hbk5 1).trans (show _=some (Value.string ⟨#[]⟩) from rfl)
     have fB0:=zae hbk5 0
     have fB1:=zae hbk5 1
     have hs1:=zat hbk5 0 (.string tt.1)
     have hs2:=zat hs1 1 (.string tt.2.1)
     have HS5:=Lib.hid (hs2.trans (show _=some (Obj.cells #[.string tt.1,.string tt.2.1] 23 (0,0)) from rfl))
     have HBF:=Lib.hid (zag (zag (g:=w.heap.size) (j:=0) (v:=.string tt.1) hB5 (Nat.le_refl _)) (j:=1) (v:=.string tt.2.1) (g:=w.heap.size) (Nat.le_refl _))
     clear hs1 hs2 hbk5 hB5 hb2
     go_wp2
     refine bodyPost_ret (zaR rfl _ _ w.heap.size 23 #[.string tt.1,.string tt.2.1] (0,0) _ rfl HS5.out Tryz.underlying23 rfl (by kernel_rfl)) rfl ?_
     exact ⟨by rw [HTT.out]; rfl,HBF.out⟩
    ·obtain ⟨q,rfl⟩:∃ q,k=q+1:=⟨k-1,by omega⟩
     have hv:(((q+1:Nat):Int)-1)=(q:Int):=by omega
     rw [hv]
     have hq0:(0:Int)≤(q:Int):=by omega
     have hq1:decide ((0:Int)≤(q:Int))=true:=decide_eq_true hq0
     have hql:q<l.length:=by omega
     have hml2:=HM.out
     have HNE:=Lib.hid (HG.out.ne (k:=q+1) (by omega) (by omega))
     have HBB:=Lib.hid (Bgd.bd HG.out (m-(q+1)) (q+1) (by omega))
     have HBQ:=Lib.hid (bd_ns (HG.out.txt q hql hql).2.1)
     have HKQ:=Lib.hid hk
     clear hv hk0
     go_wp2_with fail
     refine (inv_calls Z Z _ _ HZ.out.slot HZ.out HNE.out HBB.out (by unfold big; omega)).mono ?_
     rintro e w2 ⟨rfl,hz2,hu2⟩
     have HS3:=Lib.hid (HS.out.upd' hu2 hwz' hgz HAP.out)
     have HR3:=Lib.hid (show RbAt w2 w.heap.size ⟨#[]⟩ ⟨#[]⟩ from (hu2.other _ (zas HR.out) hwz).trans HR.out)
     have hdl:=HDL.out
     have h3:=(HS3.out.at_ q (by omega)).2.2
     have hcell:=HS3.out.cell (j:=q) (by omega)
     have hgl2:=zas HS3.out.blk
     have hrl2:=zas HR3.out
     have hzl2:=hz2.lt
     generalize ds[q]'(by omega)=dq at h3 hcell
     have hba:=zaa (Below.refl w2.heap.size w2) (.cells #[.bool false,.slice none 0 0,.bool false,.slice none 0 0] 112)
     have HS4:=Lib.hid (HS3.out.below' hba)
     have HR4:=Lib.hid (HR3.out.below hba)
     have HZ4:=Lib.hid (hz2.below hba)
     have HX4:=Lib.hid (h3.below hba)
     have HN4:=Lib.hid (RatAt.new w2 112 (by decide)).slot
     have HAP4:=Lib.hid HS3.out.apart
     have c0:(w2.alloc (.cells #[.bool false,.slice none 0 0,.bool false,.slice none 0 0] 112)).cell? ⟨g,q,none⟩=some (.pointer (some ⟨dq,0,none⟩)):=bcell hba hcell
     have hge4:w.heap.size≤w2.heap.size:=HS3.out.below.size
     clear hz2 hu2 h3 hcell hba HS3 HR3 HS HR HZ hdl hml2
     go_wp2_with fail
     refine (zaJ w2.heap.size dq 0 (ns q) _ HN4.out HX4.out HBQ.out (by decide)).mono ?_
     rintro e w3 ⟨rfl,hn3,hu3⟩
     generalize hYe:w2.heap.size=Y at *
     have HS5:=Lib.hid (HS4.out.upd' hu3 hge4 (by omega) HAP4.out)
     have HR5:=Lib.hid (show RbAt w3 w.heap.size ⟨#[]⟩ ⟨#[]⟩ from (hu3.other _ (zas HR4.out) (by omega)).trans HR4.out)
     have HZ5:=Lib.hid (HZ4.out.upd hu3 (by omega))
     have HN5:=Lib.hid hn3
     clear hn3 hu3 HS4 HR4 HZ4 HX4 HN4 HAP4 hYe c0
     go_wp2_with fail
     refine (radd_calls Z Z Y _ _ _ HZ5.out.slot HZ5.out HN5.out (HBB.out.inv HNE.out) (Bdr.int HBQ.out (by decide)) (by unfold big; omega)).mono ?_
     rintro e w4 ⟨rfl,hz6,hu6⟩
     have HS6:=Lib.hid (HS5.out.upd' hu6 hwz' hgz HAP.out)
     have HR6:=Lib.hid (show RbAt w4 w.heap.size ⟨#[]⟩ ⟨#[]⟩ from (hu6.other _ (zas HR5.out) hwz).trans HR5.out)
     have HZ6:=Lib.hid (show RatAt w4 Z (bck (suf l.length ns q)) by
      rw [bck_suf (by have:=HM.out; have:=HKQ.out; omega),Rat.add_comm]
      exact hz6)
     clear hz6 hu6 HS5 HR5 HZ5 HN5 HNE
     go_wp2
     go_roundw
     case rel=>exact ⟨q,by have:=HKQ.out; omega,by go_num,HS6,HR6,HZ6⟩
     case measure=>first|(simp [intOf]; done)|(simp [intOf]; omega)
def Rt (t:ByteArray) (i:Nat) (x:Int):Prop:=t=wtext x∧x.natAbs<10^600∧(0<i→1≤x)
theorem back_no (A:Option Addr) (c:Nat) (l:List ByteArray) (ns:Nat→Int) (m:Nat) (w:World) (hr:Kd.C Kd.string w A l.length l) (hml:m<l.length) (hln:l.length≤100000000) (hg:Bgd l ns m) (hbad:¬ ∃ x,Rt l[m] m x) :
  Calls Tryz.prog 47 #[.slice A l.length c] w fun e w'=>e = .returned (.tuple #[.agg #[.string ⟨#[]⟩,.string ⟨#[]⟩],.int .i64 3])∧Below w.heap.size w w':=by
 have hn:0<l.length:=by omega
 have hmk:=zdl (P:=Tryz.prog) 129 101 (.pointer none) 8 Tryz.underlying129 infoPI rfl (by decide) l.length (by omega)
 have hu112:=Tryz.underlying112
 have HC:=Lib.hid hr
 have HG:=Lib.hid hg
 have HBD:=Lib.hid hbad
 clear hbad
 have fr:=RbAt.new w ⟨#[]⟩ ⟨#[]⟩
 have hba:=zaa (Below.refl w.heap.size w) (.cells #[.string ⟨#[]⟩,.string ⟨#[]⟩] 23)
 have HS0:=Lib.hid (BSt.start w (w.alloc (.cells #[.string ⟨#[]⟩,.string ⟨#[]⟩] 23)) hba l.length ns)
 have HR0:=Lib.hid (fr.alloc (.cells (madeCells #[Value.pointer none] l.length) 101))
 have hgz:(w.alloc (.cells #[.string ⟨#[]⟩,.string ⟨#[]⟩] 23)).heap.size=w.heap.size+1:=World.size_alloc _ _
 rw [hgz] at HS0
 have hz0:((l.length:Int) == 0)=false:=beq_eq_false_iff_ne.2 (by omega)
 clear hr hg fr hba hgz
 go_enter Tryz.func47,Tryz.ntmps47
 go_wp2
 generalize (w.alloc (.cells #[.string ⟨#[]⟩,.string ⟨#[]⟩] 23)).alloc (.cells (madeCells #[Value.pointer none] l.length) 101)=W0 at *
 generalize hg:w.heap.size+1=g at *
 have HGG:=Lib.hid hg
 clear hg hmk
 go_loopw [18] (fun vi wr=>∃ (i:Nat) (ds:List Nat),i≤m∧vi = .int .i64 i∧Hid (ds.length=i)∧Hid (BSt w wr g l.length ns ds)∧Hid (RbAt wr w.heap.size ⟨#[]⟩ ⟨#[]⟩)) (fun vi _=>l.length-(intOf vi).toNat)
 case atStart=>exact ⟨0,[],Nat.zero_le _,rfl,Lib.hid rfl,HS0,HR0⟩
 case round =>
  obtain ⟨i,ds,hi,rfl,HL,HS,HR⟩:=hrel
  by_cases him:i<m
  ·have hin:i<l.length:=by omega
   obtain ⟨ad,rfl,hcell⟩:=C_str (Kd.C_below HC.out HS.out.below) hin
   obtain ⟨g1,g2,g3⟩:=HG.out.txt i hin him
   rw [g1] at hcell
   have hge:=HS.out.ge
   have hgl:=zas HS.out.blk
   have HG2:=Lib.hid g2
   have HG3:=Lib.hid g3
   clear g1 g2 g3
   by_cases hi0:i=0
   ·have hib:((i:Int) == 0)=true:=beq_iff_eq.2 (by omega)
    have hip:decide ((0:Int)<(i:Int))=false:=decide_eq_false (by omega)
    have hip2:((0:Int)<(i:Int))=False:=eq_false (by omega)
    have hip3:(0<i)=False:=eq_false (by omega)
    have hip4:((i:Int)≤0)=True:=eq_true (by omega)
    clear hi0
    go_wp2_with fail
    refine (zcj (ns i) _ HG2.out).mono ?_
    rintro e w1 ⟨D,rfl,hD,hx1,hb1⟩
    have HS1:=HS.out.below' hb1
    have hgd:g≠D:=by omega
    have hwd:w.heap.size≤D:=by omega
    have hdl:=HL.out
    have c0:w1.cell? ⟨g,i,none⟩=some (.pointer none):=by
     have h:=zb8 (n:=l.length) (ds:=ds) (by omega)
     rw [hdl] at h
     exact (zaf HS1.blk i).trans h
    have f0:=zae HS1.blk i
    have hM:=HS1.more (by omega) D hwd hgd (by rw [hdl]; exact hx1)
    rw [hdl] at hM
    have HM:=Lib.hid hM
    have HL2:=Lib.hid (show (ds ++ [D]).length=i+1 by rw [List.length_append,hdl]; rfl)
    have HD:=Lib.hid (zc7 (j:=i) (v:=.pointer (some ⟨D,0,none⟩)) hx1 HS1.blk hgd)
    have c1:(w1.setCell ⟨g,i,none⟩ (.pointer (some ⟨D,0,none⟩))).cell? ⟨g,i,none⟩=some (.pointer (some ⟨D,0,none⟩)):=by
     have hb:=HM.out.blk
     rw [(zaf hb i)]
     have:=zcJ (n:=l.length) (ds:=ds ++ [D]) (j:=i) (by rw [HL2.out]; omega)
     rw [this]
     have h9:(ds ++ [D])[i]'(by rw [HL2.out]; omega)=D:=by
      rw [List.getElem_append_right (by omega)]
      simp
     rw [h9]
    have HRB:=Lib.hid (show RbAt (w1.setCell ⟨g,i,none⟩ (.pointer (some ⟨D,0,none⟩))) w.heap.size ⟨#[]⟩ ⟨#[]⟩ from (Below.heap_setCell w1 ⟨g,i,none⟩ _ _ (by have:=HGG.out; show w.heap.size≠g; omega)).trans (HR.out.below hb1))
    clear hM hdl HS1 hb1 hx1 hD
    go_wp2
    go_roundw
    case rel=>exact ⟨i+1,ds ++ [D],by omega,by go_num,HL2,HM,HRB⟩
    case measure=>simp [intOf]; omega
   ·have hib:((i:Int) == 0)=false:=beq_eq_false_iff_ne.2 (by omega)
    have hip:decide ((0:Int)<(i:Int))=true:=decide_eq_true (by omega)
    have h1i:=HG3.out (by omega)
    have hxe:ns i=(((ns i).natAbs:Nat):Int):=by omega
    have hwt:wtext (ns i)=T (ns i).natAbs:=zaN (by omega)
    rw [hwt] at hcell
    have HN:=Lib.hid (fun W=>za9 (ns i).natAbs W HG2.out)
    have HXE:=Lib.hid hxe
    have HSG:=Lib.hid (show (ns i).sign≠0 from fun e=>by have:=Int.sign_eq_zero_iff_zero.1 e; omega)
    clear h1i hxe hwt
    go_wp2_with fail
    refine (HN.out _).mono ?_
    rintro e w1 ⟨D,rfl,hD,hx1,hb1⟩
    rw [←HXE.out] at hx1
    have HS1:=HS.out.below' hb1
    have hgd:g≠D:=by omega
    have hwd:w.heap.size≤D:=by omega
    have hdl:=HL.out
    have c0:w1.cell? ⟨g,i,none⟩=some (.pointer none):=by
     have h:=zb8 (n:=l.length) (ds:=ds) (by omega)
     rw [hdl] at h
     exact (zaf HS1.blk i).trans h
    have f0:=zae HS1.blk i
    have hM:=HS1.more (by omega) D hwd hgd (by rw [hdl]; exact hx1)
    rw [hdl] at hM
    have HM:=Lib.hid hM
    have HL2:=Lib.hid (show (ds ++ [D]).length=i+1 by rw [List.length_append,hdl]; rfl)
    have HD:=Lib.hid (zc7 (j:=i) (v:=.pointer (some ⟨D,0,none⟩)) hx1 HS1.blk hgd)
    have c1:(w1.setCell ⟨g,i,none⟩ (.pointer (some ⟨D,0,none⟩))).cell? ⟨g,i,none⟩=some (.pointer (some ⟨D,0,none⟩)):=by
     have hb:=HM.out.blk
     rw [(zaf hb i)]
     have:=zcJ (n:=l.length) (ds:=ds ++ [D]) (j:=i) (by rw [HL2.out]; omega)
     rw [this]
     have h9:(ds ++ [D])[i]'(by rw [HL2.out]; omega)=D:=by
      rw [List.getElem_append_right (by omega)]
      simp
     rw [h9]
    have HRB:=Lib.hid (show RbAt (w1.setCell ⟨g,i,none⟩ (.pointer (some ⟨D,0,none⟩))) w.heap.size ⟨#[]⟩ ⟨#[]⟩ from (Below.heap_setCell w1 ⟨g,i,none⟩ _ _ (by have:=HGG.out; show w.heap.size≠g; omega)).trans (HR.out.below hb1))
    clear hM hdl HS1 hb1 hx1 hD
    go_wp2_with fail
    refine (zaD D 0 (ns i) _ HD.out).mono ?_
    rintro e w3 ⟨rfl,rfl⟩
    have hsg:=HSG.out
    generalize (ns i).sign=sg at hsg ⊢
    go_wp2
    go_roundw
    case rel=>exact ⟨i+1,ds ++ [D],by omega,by go_num,HL2,HM,HRB⟩
    case measure=>simp [intOf]; omega
  ·obtain rfl:i=m:=by omega
   obtain ⟨ad,rfl,hcell⟩:=C_str (Kd.C_below HC.out HS.out.below) hml
   have hge:=HS.out.ge
   have hgl:=zas HS.out.blk
   by_cases hi0:i=0
   ·have hib:((i:Int) == 0)=true:=beq_iff_eq.2 (by omega)
    have hip:decide ((0:Int)<(i:Int))=false:=decide_eq_false (by omega)
    have hip2:((0:Int)<(i:Int))=False:=eq_false (by omega)
    have hip3:(0<i)=False:=eq_false (by omega)
    have hip4:((i:Int)≤0)=True:=eq_true (by omega)
    have HNO:=Lib.hid (show ¬ ∃ x,WR l[i] x from fun ⟨x,h1,h2⟩=>HBD.out ⟨x,h1,h2,fun h=>absurd h (by omega)⟩)
    clear hi0
    go_wp2_with fail
    refine (whole_no l[i] _ HNO.out).mono ?_
    rintro e w1 ⟨rfl,hb1⟩
    have HS1:=Lib.hid (HS.out.below' hb1)
    have HR1:=Lib.hid (HR.out.below hb1)
    have hdl:=HL.out
    have c0:w1.cell? ⟨g,i,none⟩=some (.pointer none):=by
     have h:=zb8 (n:=l.length) (ds:=ds) (by omega)
     rw [hdl] at h
     exact (zaf HS1.out.blk i).trans h
    have f0:=zae HS1.out.blk i
    have c1:(w1.setCell ⟨g,i,none⟩ (.pointer none)).cell? ⟨g,i,none⟩=some (.pointer none):=by
     have h:=zat HS1.out.blk i (.pointer none)
     rw [zaf h i]
     rw [Array.getElem?_setIfInBounds_self_of_lt]
     rw [List.size_toArray,zbJ HS1.out.le]; omega
    have hbk5:(w1.setCell ⟨g,i,none⟩ (.pointer none)).heap[w.heap.size]? = some (Obj.cells #[.string ⟨#[]⟩,.string ⟨#[]⟩] 23 (0,0)):=(Below.heap_setCell w1 ⟨g,i,none⟩ _ _ (by have:=HGG.out; show w.heap.size≠g; omega)).trans HR1.out
    have hB5:=zag HS1.out.below (j:=i) (v:=(.pointer none)) (g:=g) hge
    have cB0:=(zaf hbk5 0).trans (show _=some (Value.string ⟨#[]⟩) from rfl)
    have cB1:=(zaf hbk5 1).trans (show _=some (Value.string ⟨#[]⟩) from rfl)
    have fB0:=zae hbk5 0
    have fB1:=zae hbk5 1
    have hs1:=zat hbk5 0 (.string ⟨#[]⟩)
    have hs2:=zat hs1 1 (.string ⟨#[]⟩)
    have HS5:=Lib.hid (hs2.trans (show _=some (Obj.cells #[.string ⟨#[]⟩,.string ⟨#[]⟩] 23 (0,0)) from rfl))
    have HBF:=Lib.hid (zag (zag (g:=w.heap.size) (j:=0) (v:=.string ⟨#[]⟩) hB5 (Nat.le_refl _)) (j:=1) (v:=.string ⟨#[]⟩) (g:=w.heap.size) (Nat.le_refl _))
    clear hs1 hs2 hbk5 hB5
    clear hb1 hdl
    go_wp2
    refine bodyPost_ret (zaR rfl _ _ w.heap.size 23 #[.string ⟨#[]⟩,.string ⟨#[]⟩] (0,0) _ rfl HS5.out Tryz.underlying23 rfl (by kernel_rfl)) rfl ?_
    exact ⟨rfl,HBF.out⟩
   ·have hib:((i:Int) == 0)=false:=beq_eq_false_iff_ne.2 (by omega)
    have hip:decide ((0:Int)<(i:Int))=true:=decide_eq_true (by omega)
    rcases hrb:rightB l[i] with _|_
    ·have HNO:=Lib.hid hrb
     clear hrb
     go_wp2_with fail
     refine (zcn l[i] _ HNO.out).mono ?_
     rintro e w1 ⟨rfl,hb1⟩
     have HS1:=Lib.hid (HS.out.below' hb1)
     have HR1:=Lib.hid (HR.out.below hb1)
     have hdl:=HL.out
     have c0:w1.cell? ⟨g,i,none⟩=some (.pointer none):=by
      have h:=zb8 (n:=l.length) (ds:=ds) (by omega)
      rw [hdl] at h
      exact (zaf HS1.out.blk i).trans h
     have f0:=zae HS1.out.blk i
     have c1:(w1.setCell ⟨g,i,none⟩ (.pointer none)).cell? ⟨g,i,none⟩=some (.pointer none):=by
      have h:=zat HS1.out.blk i (.pointer none)
      rw [zaf h i]
      rw [Array.getElem?_setIfInBounds_self_of_lt]
      rw [List.size_toArray,zbJ HS1.out.le]; omega
     have hbk5:(w1.setCell ⟨g,i,none⟩ (.pointer none)).heap[w.heap.size]? = some (Obj.cells #[.string ⟨#[]⟩,.string ⟨#[]⟩] 23 (0,0)):=(Below.heap_setCell w1 ⟨g,i,none⟩ _ _ (by have:=HGG.out; show w.heap.size≠g; omega)).trans HR1.out
     have hB5:=zag HS1.out.below (j:=i) (v:=(.pointer none)) (g:=g) hge
     have cB0:=(zaf hbk5 0).trans (show _=some (Value.string ⟨#[]⟩) from rfl)
     have cB1:=(zaf hbk5 1).trans (show _=some (Value.string ⟨#[]⟩) from rfl)
     have fB0:=zae hbk5 0
     have fB1:=zae hbk5 1
     have hs1:=zat hbk5 0 (.string ⟨#[]⟩)
     have hs2:=zat hs1 1 (.string ⟨#[]⟩)
     have HS5:=Lib.hid (hs2.trans (show _=some (Obj.cells #[.string ⟨#[]⟩,.string ⟨#[]⟩] 23 (0,0)) from rfl))
     have HBF:=Lib.hid (zag (zag (g:=w.heap.size) (j:=0) (v:=.string ⟨#[]⟩) hB5 (Nat.le_refl _)) (j:=1) (v:=.string ⟨#[]⟩) (g:=w.heap.size) (Nat.le_refl _))
     clear hs1 hs2 hbk5 hB5
     clear hb1 hdl
     go_wp2
     refine bodyPost_ret (zaR rfl _ _ w.heap.size 23 #[.string ⟨#[]⟩,.string ⟨#[]⟩] (0,0) _ rfl HS5.out Tryz.underlying23 rfl (by kernel_rfl)) rfl ?_
     exact ⟨rfl,HBF.out⟩
    ·obtain ⟨n,h1,h2⟩:=right_iff.1 hrb
     have h0:n=0:=by
      apply Decidable.byContradiction
      intro h
      exact HBD.out ⟨(n:Int),by rw [zaN (by omega),Int.natAbs_natCast]; exact h1,by rw [Int.natAbs_natCast]; exact h2,fun _=>by omega⟩
     subst h0
     rw [h1] at hcell
     clear hrb h1 h2
     go_wp2_with fail
     refine (za9 0 _ (by decide)).mono ?_
     rintro e w1 ⟨D,rfl,hD,hx1,hb1⟩
     have HS1:=Lib.hid (HS.out.below' hb1)
     have HR1:=Lib.hid (HR.out.below hb1)
     have hdl:=HL.out
     have c0:w1.cell? ⟨g,i,none⟩=some (.pointer none):=by
      have h:=zb8 (n:=l.length) (ds:=ds) (by omega)
      rw [hdl] at h
      exact (zaf HS1.out.blk i).trans h
     have f0:=zae HS1.out.blk i
     have c1:(w1.setCell ⟨g,i,none⟩ (.pointer (some ⟨D,0,none⟩))).cell? ⟨g,i,none⟩=some (.pointer (some ⟨D,0,none⟩)):=by
      have h:=zat HS1.out.blk i (.pointer (some ⟨D,0,none⟩))
      rw [zaf h i]
      rw [Array.getElem?_setIfInBounds_self_of_lt]
      rw [List.size_toArray,zbJ HS1.out.le]; omega
     have hgd:g≠D:=by omega
     have HD:=Lib.hid (zc7 (j:=i) (v:=.pointer (some ⟨D,0,none⟩)) hx1 HS1.out.blk hgd)
     have hbk5:(w1.setCell ⟨g,i,none⟩ (.pointer (some ⟨D,0,none⟩))).heap[w.heap.size]? = some (Obj.cells #[.string ⟨#[]⟩,.string ⟨#[]⟩] 23 (0,0)):=(Below.heap_setCell w1 ⟨g,i,none⟩ _ _ (by have:=HGG.out; show w.heap.size≠g; omega)).trans HR1.out
     have hB5:=zag HS1.out.below (j:=i) (v:=(.pointer (some ⟨D,0,none⟩))) (g:=g) hge
     have cB0:=(zaf hbk5 0).trans (show _=some (Value.string ⟨#[]⟩) from rfl)
     have cB1:=(zaf hbk5 1).trans (show _=some (Value.string ⟨#[]⟩) from rfl)
     have fB0:=zae hbk5 0
     have fB1:=zae hbk5 1
     have hs1:=zat hbk5 0 (.string ⟨#[]⟩)
     have hs2:=zat hs1 1 (.string ⟨#[]⟩)
     have HS5:=Lib.hid (hs2.trans (show _=some (Obj.cells #[.string ⟨#[]⟩,.string ⟨#[]⟩] 23 (0,0)) from rfl))
     have HBF:=Lib.hid (zag (zag (g:=w.heap.size) (j:=0) (v:=.string ⟨#[]⟩) hB5 (Nat.le_refl _)) (j:=1) (v:=.string ⟨#[]⟩) (g:=w.heap.size) (Nat.le_refl _))
     clear hs1 hs2 hbk5 hB5
     clear hb1 hdl hx1 hD
     go_wp2_with fail
     refine (zaD D 0 _ _ HD.out).mono ?_
     rintro e w3 ⟨rfl,rfl⟩
     have hz9:Int.sign ((0:Nat):Int)=0:=rfl
     rw [hz9]
     go_wp2
     refine bodyPost_ret (zaR rfl _ _ w.heap.size 23 #[.string ⟨#[]⟩,.string ⟨#[]⟩] (0,0) _ rfl HS5.out Tryz.underlying23 rfl (by kernel_rfl)) rfl ?_
     exact ⟨rfl,HBF.out⟩
theorem back_nil (A:Option Addr) (c:Nat) (w:World) :
  Calls Tryz.prog 47 #[.slice A 0 c] w fun e w'=>e = .returned (.tuple #[.agg #[.string ⟨#[]⟩,.string ⟨#[]⟩],.int .i64 3])∧Below w.heap.size w w':=by
 have fr:=RbAt.new w ⟨#[]⟩ ⟨#[]⟩
 have hba:=zaa (Below.refl w.heap.size w) (.cells #[.string ⟨#[]⟩,.string ⟨#[]⟩] 23)
 have hbk5:(w.alloc (.cells #[.string ⟨#[]⟩,.string ⟨#[]⟩] 23)).heap[w.heap.size]? = some (Obj.cells #[.string ⟨#[]⟩,.string ⟨#[]⟩] 23 (0,0)):=fr
 have cB0:=(zaf hbk5 0).trans (show _=some (Value.string ⟨#[]⟩) from rfl)
 have cB1:=(zaf hbk5 1).trans (show _=some (Value.string ⟨#[]⟩) from rfl)
 have fB0:=zae hbk5 0
 have fB1:=zae hbk5 1
 have HS5:=Lib.hid hbk5
 have HBF:=Lib.hid hba
 clear hbk5 hba fr
 go_enter Tryz.func47,Tryz.ntmps47
 go_wp2
 refine bodyPost_ret (zaR rfl _ _ w.heap.size 23 #[.string ⟨#[]⟩,.string ⟨#[]⟩] (0,0) _ rfl HS5.out Tryz.underlying23 rfl (by kernel_rfl)) rfl ?_
 exact ⟨rfl,HBF.out⟩
theorem gd_or (l:List ByteArray):∀ k,k≤l.length→(∃ ns,Bgd l ns k)∨∃ (m:Nat) (h:m<l.length) (ns:Nat→Int),Bgd l ns m∧¬ ∃ x,Rt l[m] m x:=by
 intro k
 induction k with
 | zero=>intro _; exact Or.inl ⟨fun _=>0,⟨fun i h k=>by omega⟩⟩
 | succ k ih =>
  intro hk
  rcases ih (by omega) with ⟨ns,h⟩|h
  ·by_cases hx:∃ x,Rt (l[k]'(by omega)) k x
   ·obtain ⟨x,h1,h2,h3⟩:=hx
    refine Or.inl ⟨fun i=>if i=k then x else ns i,⟨fun i hi hik => ?_⟩⟩
    by_cases e:i=k
    ·subst e
     rw [if_pos rfl]
     exact ⟨h1,h2,h3⟩
    ·rw [if_neg e]
     exact h.txt i hi (by omega)
   ·exact Or.inr ⟨k,by omega,ns,h,hx⟩
  ·exact Or.inr h
theorem wtext_one {x y:Int} (h:wtext x=wtext y) (hx:x.natAbs<10^600) (hy:y.natAbs<10^600):x=y:=zdb h
theorem Bgd.one {l:List ByteArray} {ns ms:Nat→Int} (h:Bgd l ns l.length) (k:Bgd l ms l.length):(List.range l.length).map ns=(List.range l.length).map ms:=by
 apply List.map_congr_left
 intro i hi
 have hi:=List.mem_range.1 hi
 obtain ⟨h1,h2,_⟩:=h.txt i hi hi
 obtain ⟨k1,k2,_⟩:=k.txt i hi hi
 exact wtext_one (h1.symm.trans k1) h2 k2
noncomputable def rat_Back.f (l1:List ByteArray):Option (ByteArray×ByteArray×Int):=by
 classical exact if l1.length≤100000000 then (if h:∃ ns,0<l1.length∧Bgd l1 ns l1.length then some (toldR (bck ((List.range l1.length).map h.choose))) else some (⟨#[]⟩,⟨#[]⟩,3)) else none
theorem zcI {l:List ByteArray} {ns:Nat→Int} (hl:l.length≤100000000) (hn:0<l.length) (h:Bgd l ns l.length):rat_Back.f l=some (toldR (bck ((List.range l.length).map ns))):=by
 have hh:∃ ns,0<l.length∧Bgd l ns l.length:=⟨ns,hn,h⟩
 unfold rat_Back.f
 rw [if_pos hl,dif_pos hh,h.one hh.choose_spec.2]
theorem rat_back_no {l:List ByteArray} (hl:l.length≤100000000) (h:¬ ∃ ns,0<l.length∧Bgd l ns l.length):rat_Back.f l=some (⟨#[]⟩,⟨#[]⟩,3):=by
 unfold rat_Back.f
 rw [if_pos hl,dif_neg h]
theorem rat_Back.calls (A1:Option Addr) (c1:Nat) (l1:List ByteArray) (r1 r2:ByteArray) (r3:Int) (w:World) (hr0:Kd.C Kd.string w A1 l1.length l1) (hc0:l1.length≤c1) (h:rat_Back.f l1=some (r1,r2,r3)) :
  Calls Tryz.prog 47 #[.slice A1 l1.length c1] w fun e w'=>e = .returned (.tuple #[.agg #[.string r1,.string r2],.int .i64 r3])∧Below w.heap.size w w':=by
 by_cases hl:l1.length≤100000000
 ·by_cases hg:∃ ns,0<l1.length∧Bgd l1 ns l1.length
  ·obtain ⟨ns,hn,hg⟩:=hg
   rw [zcI hl hn hg] at h
   have h:=Option.some.inj h
   have hb:=back_yes A1 c1 l1 ns w hr0 hn hl hg
   rw [h] at hb
   exact hb
  ·rw [rat_back_no hl hg] at h
   obtain ⟨rfl,h9⟩:=Prod.mk.inj (Option.some.inj h)
   obtain ⟨rfl,rfl⟩:=Prod.mk.inj h9
   by_cases hn:0<l1.length
   ·rcases gd_or l1 l1.length (Nat.le_refl _) with ⟨ns,hk⟩|⟨m,hm,ns,hk,hb⟩
    ·exact absurd ⟨ns,hn,hk⟩ hg
    ·exact back_no A1 c1 l1 ns m w hr0 hm hl hk hb
   ·have e:l1.length=0:=by omega
    rw [e]
    exact back_nil A1 c1 w
 ·unfold rat_Back.f at h
  rw [if_neg hl] at h
  exact absurd h (by simp)
structure CSt (w wr:World) (g:Nat) (x:Rat) (v:Value) (fin rest l:List Int):Prop where
 chn:Chn x rest
 all:fin++rest=l
 at_:RatAt wr g x
 row:RowT wr w.heap.size v (fin.map wtext)
 ne:some g≠v.ownBlock
 below:Below w.heap.size w wr
 bd:Bdr 2000 x
 ge:w.heap.size≤g
theorem chain_yes (a b:ByteArray) (x:Rat) (l:List Int) (w:World) (hx:RR a b x) (hc:Chn x l) :
  Calls Tryz.prog 45 #[.agg #[.string a,.string b]] w fun e w'=>∃ v0_:Value,e = .returned (.tuple #[v0_,.int .i64 0])∧RowT w' w.heap.size v0_ (l.map wtext)∧Below w.heap.size w w':=by
 have hu112:=Tryz.underlying112
 have hba:=zaa (Below.refl w.heap.size w) (.cells #[.string a,.string b] 23)
 have c0:(w.alloc (.cells #[.string a,.string b] 23)).cell? ⟨w.heap.size,0,none⟩=some (.string a):=(zaf (zay w (.cells #[.string a,.string b] 23)) 0).trans rfl
 have c1:(w.alloc (.cells #[.string a,.string b] 23)).cell? ⟨w.heap.size,1,none⟩=some (.string b):=(zaf (zay w (.cells #[.string a,.string b] 23)) 1).trans rfl
 have HR:=fun W=>read_yes x W hx.ln hx.ld
 rw [←hx.num,←hx.den] at HR
 have HR:=Lib.hid HR
 have HLL:=Lib.hid (show l.length≤4000 from Chn.len 2000 x l hc (by have:=hx.bd.2; unfold Bd at this; rwa [Int.natAbs_natCast] at this))
 have HX:=Lib.hid hx.bd
 have HC:=Lib.hid hc
 clear hx hc
 go_enter Tryz.func45,Tryz.ntmps45
 go_wp2_with fail
 go_step3
 go_wp2_with fail
 generalize w.alloc (.cells #[.string a,.string b] 23)=W0 at *
 have HBA:=Lib.hid hba
 clear hba c0 c1
 refine (HR.out _).mono ?_
 rintro e w1 ⟨g,rfl,hg,hx1,hb1⟩
 have hge:w.heap.size≤g:=by have:=HBA.out.size; omega
 have HS0:=Lib.hid (show CSt w w1 g x (.slice none 0 0) [] l l from ⟨HC.out,rfl,hx1,Kd.R_nil _ _ _ _ _,(by simp [Value.ownBlock]),bthen HBA.out hb1,HX.out,hge⟩)
 clear HR hg hx1 hb1 hge HBA HC HX
 go_wp2_with fail
 go_step3
 go_wp2_with fail
 go_loopw [5] (fun v wr=>∃ (x':Rat) (fin rest:List Int),Hid (CSt w wr g x' v fin rest l)) (fun v _=>5000-slen v)
 case atStart=>exact ⟨x,[],l,HS0⟩
 case round =>
  obtain ⟨x',fin,rest,HS⟩:=hrel
  have HLS:=Lib.hid (row_slen HS.out.row)
  have hg0:=HS.out.at_.lt
  have hge:=HS.out.ge
  have HQE:=Lib.hid (show (fin.map wtext).length≤4000 by
   have h1:=congrArg List.length HS.out.all
   have h2:=HLL.out
   rw [List.length_append] at h1
   rw [List.length_map]; omega)
  go_wp2_with fail
  refine (floor_calls g x' _ HS.out.at_ HS.out.bd (by decide)).mono ?_
  rintro e w2 ⟨D,rfl,hD,hq2,hb2⟩
  have hgD:g≠D:=by omega
  have HX2:=Lib.hid (HS.out.at_.below hb2)
  have HR2:=Lib.hid (zcH HS.out.row hb2)
  have HB2:=Lib.hid (bthen HS.out.below hb2)
  have HD2:=Lib.hid (row_ne HS.out.row hD)
  have HQ2:=Lib.hid hq2
  have hl2:=hq2.lt
  have hs2:=hb2.size
  clear hb2 hq2 hD
  go_wp2_with fail
  refine (string_new D 0 x'.floor _ HQ2.out (zdA HS.out.bd) (by decide)).mono ?_
  rintro e w3 ⟨rfl,hb3⟩
  have HX3:=Lib.hid (HX2.out.below hb3)
  have HR3:=Lib.hid (zcH HR2.out hb3)
  have HB:=Lib.hid (bthen HB2.out hb3)
  have HQ3:=Lib.hid (HQ2.out.below hb3)
  have hs3:=hb3.size
  clear hb3 HX2 HR2 HB2 HQ2
  go_wp2_with ((with_reducible refine zbd (b:=.append) (xs:=#[.tmp 13,.tmp 16]) rfl ?_); at_builtin; refine Kd.R_append Kd.string (w0:=w) w.heap.size rfl (.tmp 13) (.tmp 16) 34 9 (.string ⟨#[]⟩) 16 rfl Tryz.underlying34 info9 rfl (by decide) (by omega) u5 (fin.map wtext) (wtext x'.floor) [.string (wtext x'.floor)] (fun _=>True) (fun _=>False) rfl rfl ?aP (fun _ hk=>hk.elim) ?aF ?aO ?aB ?aS ?aL ?_; (case aP=>exact rfl); (case aB=>exact HB.out); (case aF=>exact (fun _ _=>trivial)); (case aO=>exact HR3.out); (case aS=>exact HB.out.size); (case aL=>have:=HQE.out; omega); intro v4 w4 ho hb hg hat)
  have hX4:=rat_grown HX3.out HR3.out hg (by have:=HS.out.ne; exact this)
  have hQ4:=int_grown HQ3.out HR3.out hg HD2.out
  have hl3:=HX3.out.lt
  have hN4:=ne_after HS.out.ne hl3 hat
  have hD4:=ne_after HD2.out (show D<w3.heap.size by omega) hat
  have hs4:=hg.size
  have HX4:=Lib.hid (hX4.below (zaa (Below.refl _ _) (.cells #[.bool false,.slice none 0 0,.bool false,.slice none 0 0] 112)))
  have HQ4:=Lib.hid (hQ4.below (zaa (Below.refl _ _) (.cells #[.bool false,.slice none 0 0,.bool false,.slice none 0 0] 112)))
  have HR4:=Lib.hid (zcH ho (zaa (Below.refl _ _) (.cells #[.bool false,.slice none 0 0,.bool false,.slice none 0 0] 112)))
  have HB4:=Lib.hid (zaa hb (.cells #[.bool false,.slice none 0 0,.bool false,.slice none 0 0] 112))
  have HN4:=Lib.hid hN4
  have HG4:=Lib.hid (row_ne ho (Nat.le_refl w4.heap.size))
  have hZ4:=(RatAt.new w4 112 (by decide)).slot
  have hw4:w.heap.size≤w4.heap.size:=hb.size
  clear hX4 hQ4 hN4 hD4 ho hb hg hat HX3 HR3 HQ3 HB HD2
  refine (zaJ w4.heap.size D 0 x'.floor _ hZ4 HQ4.out (zdA HS.out.bd) (by decide)).mono ?_
  rintro e w5 ⟨rfl,hf5,hu5⟩
  have HX5:=Lib.hid (HX4.out.upd hu5 (by omega))
  have HR5:=Lib.hid (row_upd HR4.out hu5 HG4.out)
  have HB5:=Lib.hid (hu5.new HB4.out (by omega))
  clear hu5 HX4 HQ4 HR4 HB4 hZ4 HG4
  have HBF:=Lib.hid (Bdr.int (zdA HS.out.bd) (show 0<2000 by decide))
  go_wp2_with fail
  refine (rsub_calls g g w4.heap.size x' _ _ HX5.out.slot HX5.out hf5 HS.out.bd HBF.out (by decide)).mono ?_
  rintro e w6 ⟨rfl,hX6,hu6⟩
  have HX6:=Lib.hid hX6
  have HR6:=Lib.hid (row_upd HR5.out hu6 HN4.out)
  have HB6:=Lib.hid (hu6.new HB5.out hge)
  clear hX6 hu6 hf5 HX5 HR5 HB5
  go_wp2_with fail
  refine (rsign_calls g _ _ HX6.out).mono ?_
  rintro e w7 ⟨rfl,rfl⟩
  have hce:=HS.out.chn
  rcases hce with ⟨_,h1⟩|⟨_,rest,h1,hr⟩
  ·have hs:(x'-((x'.floor:Int):Rat)).num.sign=0:=by
    have e:x'-((x'.floor:Int):Rat)=0:=by rw [h1]; exact Rat.sub_self
    rw [e]; rfl
   have HL:=Lib.hid (show (fin.map wtext) ++ [wtext x'.floor]=l.map wtext by
    rw [←HS.out.all,List.map_append]; rfl)
   rw [hs]
   rw [HL.out] at HR6
   clear hs h1 HS HLS HQE HX6
   go_wp2
   rw [Exit.noGoto_ret]
   go_ret2
   exact ⟨_,rfl,HR6.out,HB6.out⟩
  ·obtain ⟨p0,p1,p2,p3,p4⟩:=Chn.parts h1
   have hs:¬ (x'-((x'.floor:Int):Rat)).num.sign=0:=fun e=>by
    have:=rpos.1 p0
    have:=Int.sign_eq_zero_iff_zero.1 e
    omega
   have hbd2:=HS.out.bd.2
   unfold Bd at hbd2
   have hbs:Bdr 2000 (x'-((x'.floor:Int):Rat)):=by
    obtain ⟨c1,c2⟩:=zcD x'
    exact ⟨by rw [c1]; unfold Bd; omega,by rw [c2]; exact HS.out.bd.2⟩
   have hne:x'-((x'.floor:Int):Rat)≠0:=fun e=>by rw [e] at p0; exact absurd p0 (by decide)
   have HBS:=Lib.hid hbs
   have HNE:=Lib.hid hne
   have HCR:=Lib.hid hr
   have HAL:=Lib.hid (show (fin ++ [x'.floor])++rest=l by rw [←HS.out.all,List.append_assoc]; rfl)
   generalize (x'-((x'.floor:Int):Rat)).num.sign=sg at hs ⊢
   clear p0 p1 p2 p3 p4 h1 hbs hne hbd2 hr
   go_wp2_with fail
   refine (inv_calls g g _ _ HX6.out.slot HX6.out HNE.out HBS.out (by decide)).mono ?_
   rintro e w8 ⟨rfl,hX8,hu8⟩
   have HS8:=Lib.hid (show CSt w w8 g (x'-((x'.floor:Int):Rat))⁻¹ v4 (fin ++ [x'.floor]) rest l from ⟨HCR.out,HAL.out,hX8,by rw [List.map_append]; exact row_upd HR6.out hu8 HN4.out,HN4.out,hu8.new HB6.out hge,HBS.out.inv HNE.out,hge⟩)
   have hM:slen v4=slen u5+1:=by
    have h1:=row_slen HR6.out
    rw [h1,HLS.out,List.length_append]; rfl
   have hQ:=HQE.out
   have hQ2:slen u5≤4000:=by rw [HLS.out]; exact hQ
   have HM:=Lib.hid hM
   have HM2:=Lib.hid hQ2
   clear hX8 hu8 hM hQ hQ2 HX6 HR6 HB6 HNE HBS HCR HAL hs
   go_wp2
   go_roundw
   case rel=>exact ⟨_,_,_,HS8⟩
   case measure =>
    have h1:=HM.out
    have h2:=HM2.out
    show 5000-slen v4<5000-slen u5
    omega
theorem chain_no (a b:ByteArray) (w:World) (h:¬ ∃ x,RR a b x) :
  Calls Tryz.prog 45 #[.agg #[.string a,.string b]] w fun e w'=>∃ v0_:Value,e = .returned (.tuple #[v0_,.int .i64 3])∧RowT w' w.heap.size v0_ []∧Below w.heap.size w w':=by
 have hba:=zaa (Below.refl w.heap.size w) (.cells #[.string a,.string b] 23)
 have c0:(w.alloc (.cells #[.string a,.string b] 23)).cell? ⟨w.heap.size,0,none⟩=some (.string a):=(zaf (zay w (.cells #[.string a,.string b] 23)) 0).trans rfl
 have c1:(w.alloc (.cells #[.string a,.string b] 23)).cell? ⟨w.heap.size,1,none⟩=some (.string b):=(zaf (zay w (.cells #[.string a,.string b] 23)) 1).trans rfl
 have HR:=Lib.hid (fun W=>read_no a b W h)
 clear h
 go_enter Tryz.func45,Tryz.ntmps45
 go_wp2_with fail
 go_step3
 go_wp2_with fail
 generalize w.alloc (.cells #[.string a,.string b] 23)=W0 at *
 have HBA:=Lib.hid hba
 clear hba c0 c1
 refine (HR.out _).mono ?_
 rintro e w1 ⟨rfl,hb1⟩
 have HB1:=Lib.hid (bthen HBA.out hb1)
 clear hb1
 go_wp2
 rw [Exit.noGoto_ret]
 go_ret2
 exact ⟨_,rfl,Kd.R_nil _ _ _ _ _,HB1.out⟩
noncomputable def chnR (x:Rat):List Int:=(Chn.exists _ x (Nat.le_refl _)).choose
theorem zdy (x:Rat):Chn x (chnR x):=(Chn.exists _ x (Nat.le_refl _)).choose_spec
noncomputable def rat_Chain.f (a0_0 a0_1:ByteArray):Option (List ByteArray×Int):=by
 classical exact if h:∃ x,RR a0_0 a0_1 x then some ((chnR h.choose).map wtext,0) else some ([],3)
theorem zcu {a b:ByteArray} {x:Rat} (h:RR a b x):rat_Chain.f a b=some ((chnR x).map wtext,0):=by
 have hh:∃ x,RR a b x:=⟨x,h⟩
 unfold rat_Chain.f
 rw [dif_pos hh,←rr_one h hh.choose_spec]
theorem rat_chain_no {a b:ByteArray} (h:¬ ∃ x,RR a b x):rat_Chain.f a b=some ([],3):=by
 unfold rat_Chain.f
 rw [dif_neg h]
theorem rat_Chain.calls (a0_0 a0_1:ByteArray) (r1:List ByteArray) (r2:Int) (w:World) (h:rat_Chain.f a0_0 a0_1=some (r1,r2)) :
  Calls Tryz.prog 45 #[.agg #[.string a0_0,.string a0_1]] w fun e w'=>∃ v0_:Value,e = .returned (.tuple #[v0_,.int .i64 r2])∧Kd.R Kd.string 9 w' w.heap.size (fun _=>True) v0_ r1∧Below w.heap.size w w':=by
 by_cases hh:∃ x,RR a0_0 a0_1 x
 ·obtain ⟨x,hx⟩:=hh
  rw [zcu hx] at h
  obtain ⟨rfl,rfl⟩:=Prod.mk.inj (Option.some.inj h)
  exact chain_yes a0_0 a0_1 x (chnR x) w hx (zdy x)
 ·rw [rat_chain_no hh] at h
  obtain ⟨rfl,rfl⟩:=Prod.mk.inj (Option.some.inj h)
  exact chain_no a0_0 a0_1 w hh
end Go.Proofs.ZQ
end
section
namespace Go.Proofs.ZQ
open Go.RowKit Go.Proofs.ZW.Wa Go.Proofs.ZP
theorem Simp.sz {k:Nat} {x y s:Rat} (h:Simp x y s) (h0:0<x) (hxy:x≤y) (hx:Sz k x):Sz k s:=by
 obtain ⟨h1,h2⟩:=h.least h0 hxy x Rat.le_refl hxy
 obtain ⟨h3,h4⟩:=h.between h0 hxy
 have h5:0<s.num:=rpos.1 (by grind)
 have h6:0<x.num:=rpos.1 h0
 exact ⟨Nat.le_trans (za2 (by omega)) hx.1,Nat.le_trans (za2 h2) hx.2⟩
end Go.Proofs.ZQ
end
section
namespace Go.Proofs.ZQ
open Go.RowKit Go.Proofs.ZW.Wa Go.Proofs.ZP Go.Proofs.ZW.Wb Go.Proofs.ZW.Wc
noncomputable def c2_Compare.f (a0_0:Bool) (a0_1:ByteArray) (a0_2:ByteArray) (a1_0:Bool) (a1_1:ByteArray) (a1_2:ByteArray):Option (Int):=(c2_Minus.f a1_0 a1_1 a1_2).bind fun bt821=>((c2_Plus.f a0_0 a0_1 a0_2 bt821.1 bt821.2.1 bt821.2.2).bind fun bt824=>(if bt824.2.1.toList=([48]:List UInt8) then (some 0) else (if bt824.1=true then (some (-1)) else (some 1))))
end Go.Proofs.ZQ
end
section
namespace Go.Proofs.ZQ
open Go.RowKit Go.Proofs.ZW.Wa Go.Proofs.ZW.Wb Go.Proofs.ZW.Wc
attribute [local go_sem] zaI zaG zaP zaO zaA zaz zaH zaF
noncomputable def c2_Cmp.j0:Nat→Bool→ByteArray→ByteArray→ByteArray→ByteArray→Option (Int×Int)
 | 0,_,_,_,_,_=>none
 | k+1,x13,x801000,x801001,x802000,x802001=>if x13=true then (some (0,3)) else ((c2_Read.f k x801000 x801001).bind fun bt804=>((c2_Read.f k x802000 x802001).bind fun bt807=>((c2_Compare.f bt804.1 bt804.2.1 bt804.2.2 bt807.1 bt807.2.1 bt807.2.2).bind fun t810=>(some (t810,0)))))
noncomputable def c2_Cmp.f (k:Nat) (a0_0:ByteArray) (a0_1:ByteArray) (a1_0:ByteArray) (a1_1:ByteArray):Option (Int×Int):=(c2_Right.f k a0_0 a0_1).bind fun t802=>(if t802=true then ((c2_Right.f k a1_0 a1_1).bind fun t803=>(c2_Cmp.j0 k (!t803) a0_0 a0_1 a1_0 a1_1)) else (c2_Cmp.j0 k true a0_0 a0_1 a1_0 a1_1))
noncomputable def c2_Down.j0:Nat→ByteArray→Bool→Bool→ByteArray→ByteArray→Option (Bool×ByteArray×ByteArray)
 | 0,_,_,_,_,_=>none
 | k+1,x3,x18,x817000,x817001,x817002=>if x18=true then ((c1_Plus.f x3 (⟨#[49]⟩:ByteArray)).bind fun t820=>((c2_Lowest.f x817000 t820 (⟨#[49]⟩:ByteArray)).bind fun bt821=>(some (bt821.1,bt821.2.1,bt821.2.2)))) else ((c2_Lowest.f x817000 x3 (⟨#[49]⟩:ByteArray)).bind fun bt824=>(some (bt824.1,bt824.2.1,bt824.2.2)))
noncomputable def c2_Down.f (k:Nat) (a0_0:Bool) (a0_1:ByteArray) (a0_2:ByteArray):Option (Bool×ByteArray×ByteArray):=(c1_Divide.f a0_1 a0_2).bind fun bt818=>(if a0_0=true then (c2_Down.j0 k bt818.1 (bt818.2.toList != ([48]:List UInt8)) a0_0 a0_1 a0_2) else (c2_Down.j0 k bt818.1 false a0_0 a0_1 a0_2))
noncomputable def c2_Floor.f (k:Nat) (a0_0:ByteArray) (a0_1:ByteArray):Option (ByteArray×ByteArray×Int):=(c2_Right.f k a0_0 a0_1).bind fun t829=>(if t829=true then ((c2_Read.f k a0_0 a0_1).bind fun bt830=>((c2_Down.f k bt830.1 bt830.2.1 bt830.2.2).bind fun bt833=>((c2_Told.f k bt833.1 bt833.2.1 bt833.2.2).bind fun bt836=>(some (bt836.1,bt836.2.1,bt836.2.2))))) else (some ((⟨#[]⟩:ByteArray),(⟨#[]⟩:ByteArray),3)))
noncomputable def rat_Sign.f (a0_0:ByteArray) (a0_1:ByteArray):Option (Int×Int):=(rat_Of.f 0).bind fun bt812=>((rat_Cmp.f a0_0 a0_1 bt812.1 bt812.2).bind fun bt814=>(some (bt814.1,bt814.2)))
end Go.Proofs.ZQ
end
section
namespace Go.Proofs.ZQ
open Go.RowKit Go.Proofs.ZW.Wa Go.Proofs.ZP
theorem zdt (x:Rat):x.floor=sgn (decide (x.num<0)) (if x.num<0∧x.num.natAbs%x.den≠0 then x.num.natAbs/x.den+1 else x.num.natAbs/x.den):=by
 rw [Rat.floor_def]
 have hd:=x.den_pos
 by_cases h:x.num<0
 ·rw [decide_eq_true h]
  have e:x.num = -(x.num.natAbs:Int):=by omega
  have e3:∀ n:Nat,sgn true n = -(n:Int):=fun _=>rfl
  rw [e3]
  have h1:=Nat.div_add_mod x.num.natAbs x.den
  have h2:=Nat.mod_lt x.num.natAbs hd
  generalize hm:x.num.natAbs=m at *
  generalize hb:x.den=b at *
  by_cases hz:m%b=0
  ·rw [if_neg (fun k=>k.2 hz),e]
   refine (show (-(m:Int))/b=_∧(-(m:Int))%b=0 from (Int.ediv_emod_unique (by omega)).2 ⟨?_,by omega,by omega⟩).1
   rw [hz,Nat.add_zero] at h1
   have:((b*(m/b):Nat):Int)=m:=by rw [h1]
   rw [Int.natCast_mul] at this
   rw [Int.mul_neg]; omega
  ·rw [if_pos ⟨h,hz⟩,e]
   refine (show (-(m:Int))/b=_∧(-(m:Int))%b=(b:Int)-((m%b:Nat):Int) from (Int.ediv_emod_unique (by omega)).2 ⟨?_,by omega,by omega⟩).1
   have:((b*(m/b)+m%b:Nat):Int)=m:=by rw [h1]
   rw [Int.natCast_add,Int.natCast_mul] at this
   rw [Int.natCast_add,Int.mul_neg,Int.mul_add]
   omega
 ·rw [decide_eq_false h,if_neg (fun k=>h k.1)]
  have e:x.num=(x.num.natAbs:Int):=by omega
  have e3:∀ n:Nat,sgn false n=(n:Int):=fun _=>rfl
  rw [e3,Int.natCast_ediv]
  conv=>lhs; rw [e]
theorem Simp.bd {n:Nat} {x y s:Rat} (h:Simp x y s) (h0:0<x) (hxy:x≤y) (hx:Bdr n x):Bdr n s:=by
 obtain ⟨h1,h2⟩:=h.least h0 hxy x Rat.le_refl hxy
 obtain ⟨h3,h4⟩:=h.between h0 hxy
 have h5:0<s.num:=rpos.1 (by grind)
 have h6:0<x.num:=rpos.1 h0
 exact ⟨hx.1.le (by omega),hx.2.le (by omega)⟩
noncomputable def simp1 (x y:Rat):Rat:=by
 classical exact if h:0<x∧x≤y then (Simp.exists _ x y (Nat.le_refl _) h.1 h.2).choose else 0
noncomputable def simR (x y:Rat):Rat:=if x≤0∧0≤y then 0 else if 0<x then simp1 x y else -simp1 (-y) (-x)
noncomputable def rat_Simple.f (a0_0 a0_1 a1_0 a1_1:ByteArray):Option (ByteArray×ByteArray×Int):=twoF (fun x y=>if y<x then 9 else 0) (fun x y=>simR x y) a0_0 a0_1 a1_0 a1_1
end Go.Proofs.ZQ
end
section
namespace Go.Proofs.ZQ
open Go.RowKit Go.Proofs.ZW.Wa Go.Proofs.ZP Go.Proofs.ZW.Wb Go.Proofs.ZW.Wc
def rst (x:Rat):Nat:=(x.num-x.floor*x.den).toNat
theorem wtext_minus {x:Int} (h:x<0):(⟨#[45]⟩:ByteArray)++T x.natAbs=wtext x:=by
 have h1:=zax (zaK h)
 rw [h1]
 apply ByteArray.ext
 apply Array.toList_inj.1
 simp
theorem fl_pos {x:Rat} (h:¬ x.num<0):x.floor=((x.num.natAbs/x.den:Nat):Int)∧wtext x.floor=T (x.num.natAbs/x.den)∧rst x=x.num.natAbs%x.den:=by
 have h1:x.floor=((x.num.natAbs/x.den:Nat):Int):=by
  have h1:=zdt x
  rw [decide_eq_false h,if_neg (fun e=>h e.1)] at h1
  exact h1
 refine ⟨h1,by rw [h1,zaN (Int.natCast_nonneg _),Int.natAbs_natCast],?_⟩
 unfold rst
 have h2:=Nat.div_add_mod x.num.natAbs x.den
 have h3:(((x.num.natAbs/x.den:Nat):Int)*(x.den:Int))=((x.den*(x.num.natAbs/x.den):Nat):Int):=by rw [Nat.mul_comm]; exact (Int.natCast_mul _ _).symm
 rw [h1,h3]
 omega
theorem fl_neg0 {x:Rat} (h:x.num<0) (h0:x.num.natAbs%x.den=0):(⟨#[45]⟩:ByteArray)++T (x.num.natAbs/x.den)=wtext x.floor∧rst x=x.num.natAbs%x.den:=by
 have h1:x.floor = -((x.num.natAbs/x.den:Nat):Int):=by
  have h1:=zdt x
  rw [decide_eq_true h,if_neg (fun e=>e.2 h0)] at h1
  exact h1
 have h2:=Nat.div_add_mod x.num.natAbs x.den
 have h3:(-((x.num.natAbs/x.den:Nat):Int)*(x.den:Int)) = -((x.den*(x.num.natAbs/x.den):Nat):Int):=by rw [Nat.mul_comm,Int.neg_mul]; exact congrArg _ (Int.natCast_mul _ _).symm
 have h4:0<x.num.natAbs/x.den:=by
  apply Nat.pos_of_ne_zero
  intro e
  rw [e] at h2
  omega
 constructor
 ·have h5:x.floor.natAbs=x.num.natAbs/x.den:=by omega
  rw [←h5]
  exact wtext_minus (by omega)
 ·unfold rst
  rw [h1,h3]
  omega
theorem fl_neg1 {x:Rat} (h:x.num<0) (h0:x.num.natAbs%x.den≠0):(⟨#[45]⟩:ByteArray)++T (x.num.natAbs/x.den+1)=wtext x.floor∧rst x=x.den-x.num.natAbs%x.den:=by
 have h1:x.floor = -((x.num.natAbs/x.den+1:Nat):Int):=by
  have h1:=zdt x
  rw [decide_eq_true h,if_pos ⟨h,h0⟩] at h1
  exact h1
 have h2:=Nat.div_add_mod x.num.natAbs x.den
 have h4:=Nat.mod_lt x.num.natAbs x.den_pos
 generalize x.num.natAbs/x.den=q at *
 generalize x.num.natAbs%x.den=r at *
 have h3:(-((q+1:Nat):Int)*(x.den:Int)) = -((x.den*q:Nat):Int)-x.den:=by
  have e:((q+1:Nat):Int)*(x.den:Int)=((x.den*q:Nat):Int)+x.den:=by rw [Int.natCast_add,Int.add_mul,Nat.mul_comm x.den,Int.natCast_mul]; congr 1; exact Int.one_mul _
  rw [Int.neg_mul,e]; omega
 constructor
 ·have h5:x.floor.natAbs=q+1:=by rw [h1,Int.natAbs_neg,Int.natAbs_natCast]
  rw [←h5]
  exact wtext_minus (by rw [h1]; omega)
 ·unfold rst
  rw [h1,h3]
  generalize x.den*q=m at *
  omega
theorem rst_lt (x:Rat):rst x<x.den:=by
 have h1:=Nat.mod_lt x.num.natAbs x.den_pos
 have h2:=x.den_pos
 by_cases h:x.num<0
 ·by_cases h0:x.num.natAbs%x.den=0
  ·rw [(fl_neg0 h h0).2]; exact h1
  ·rw [(fl_neg1 h h0).2]; omega
 ·rw [(fl_pos h).2.2]; exact h1
theorem rst_zero {x:Rat} (h:rst x=0):((x.floor:Int):Rat)=x:=by
 apply Decidable.byContradiction
 intro e
 obtain ⟨_,_,_,h4,_⟩:=Chn.parts e
 unfold rst at h
 omega
theorem rst_next {x:Rat} (h:rst x≠0):((x.floor:Int):Rat)≠x∧0<(x-((x.floor:Int):Rat))⁻¹∧(x-((x.floor:Int):Rat))⁻¹.num.natAbs=x.den∧(x-((x.floor:Int):Rat))⁻¹.den=rst x:=by
 have e:((x.floor:Int):Rat)≠x:=fun e=>h (by
  have h1:=zcD x
  unfold rst
  rw [←h1.1,e,Rat.sub_self]
  rfl)
 obtain ⟨h1,h2,h3,h4,h5⟩:=Chn.parts e
 refine ⟨e,Rat.inv_pos.2 h1,by rw [h2]; exact Int.natAbs_natCast _,?_⟩
 unfold rst
 omega
theorem rr_int {t:ByteArray} {n:Int} (h:t=wtext n) (hn:n.natAbs<10^600):RR t ⟨#[49]⟩ (n:Rat):=⟨h,T_1,hn,Nat.lt_of_lt_of_le (show 1<10^1 by decide) (Nat.pow_le_pow_right (by decide) (by decide))⟩
theorem inv_nd {z:Rat} (h:0<z):z⁻¹.num=z.den∧z⁻¹.den=z.num.natAbs:=by
 have hn:=rpos.1 h
 have h1:z⁻¹=Rat.divInt z.den z.num:=zc6 z
 have h2:=zdv (z.den:Int) z.num (by omega)
 rw [←h1] at h2
 have hg:Int.gcd (z.den:Int) z.num=1:=by
  rw [Int.gcd_comm]
  exact z.reduced
 rw [hg,Nat.div_one,Nat.div_one,Int.natAbs_natCast] at h2
 have e1:decide ((z.den:Int)<0)=false:=decide_eq_false (by omega)
 have e2:decide (z.num<0)=false:=decide_eq_false (by omega)
 rw [e1,e2] at h2
 exact ⟨h2.1,h2.2⟩
theorem add_nd (a:Int) {z:Rat} (h:0<z):((a:Rat)+z⁻¹).num=a*z.num+z.den∧((a:Rat)+z⁻¹).den=z.num.natAbs:=by
 obtain ⟨h1,h2⟩:=inv_nd h
 have hn:=rpos.1 h
 obtain ⟨h3,h4⟩:=zby z⁻¹ (-a)
 have e:z⁻¹-((-a:Int):Rat)=(a:Rat)+z⁻¹:=by rw [Rat.intCast_neg]; grind
 rw [e,h1] at h3
 rw [e,h2] at h4
 refine ⟨?_,h4⟩
 rw [h3,h2,Int.neg_mul,show ((z.num.natAbs:Nat):Int)=z.num by omega]
 omega
def zn (n:Nat) (ns:Nat→Int) (k:Nat):Nat:=(bck (suf n ns k)).num.natAbs
def zd (n:Nat) (ns:Nat→Int) (k:Nat):Nat:=(bck (suf n ns k)).den
theorem Bgd.pos {l:List ByteArray} {ns:Nat→Int} {k:Nat} (h:Bgd l ns l.length) (hk:0<k) (hl:k<l.length):0<bck (suf l.length ns k):=by
 have:=(bck_pos _ (fun e=>by have:=zc4 l.length ns k; rw [e] at this; simp at this; omega) (h.ones hk)).1
 exact Rat.not_le.1 fun e=>absurd (Rat.le_trans this e) (by decide)
theorem Bgd.step {l:List ByteArray} {ns:Nat→Int} {k:Nat} (h:Bgd l ns l.length) (hl:k+1<l.length) (hk:0<k):zn l.length ns k=(ns k).natAbs*zn l.length ns (k+1)+zd l.length ns (k+1)∧zd l.length ns k=zn l.length ns (k+1)∧zn l.length ns (k+1)≤zn l.length ns k:=by
 have hp:=h.pos (k:=k+1) (by omega) hl
 obtain ⟨h1,h2⟩:=add_nd (ns k) hp
 have h3:=(h.txt k (by omega) (by omega)).2.2 hk
 have hn:=rpos.1 hp
 unfold zn zd
 rw [bck_suf hl,h1,h2]
 have e:(ns k*(bck (suf l.length ns (k+1))).num+((bck (suf l.length ns (k+1))).den:Int)).natAbs=(ns k).natAbs*(bck (suf l.length ns (k+1))).num.natAbs+(bck (suf l.length ns (k+1))).den:=by
  apply Int.ofNat_inj.1
  rw [Int.natCast_add,Int.natCast_mul,Int.natAbs_of_nonneg (show 0≤ns k by omega),Int.natAbs_of_nonneg (Int.le_of_lt hn),Int.natAbs_of_nonneg]
  have:=Int.mul_nonneg (show 0≤ns k by omega) (Int.le_of_lt hn)
  omega
 rw [e]
 refine ⟨rfl,rfl,?_⟩
 have h4:1*(bck (suf l.length ns (k+1))).num.natAbs≤(ns k).natAbs*(bck (suf l.length ns (k+1))).num.natAbs:=Nat.mul_le_mul_right _ (by omega)
 omega
theorem suf_all (n:Nat) (ns:Nat→Int):suf n ns 0=(List.range n).map ns:=rfl
theorem texts_same (A0:Option Addr) (c0:Nat) (A1:Option Addr) (c1:Nat) (l:List ByteArray) (w:World) (h0:Kd.C Kd.string w A0 l.length l) (h1:Kd.C Kd.string w A1 l.length l) (hl:l.length≤100000000) :
  Calls Tryz.prog 49 #[.slice A0 l.length c0,.slice A1 l.length c1] w fun e w'=>e = .returned (.bool true)∧Below w.heap.size w w':=by
 have H0:=Lib.hid h0
 have H1:=Lib.hid h1
 have HB:=Lib.hid (Below.refl w.heap.size w)
 clear h0 h1
 go_enter Tryz.func49,Tryz.ntmps49
 go_wp2
 go_loopw [13] (fun v wr=>∃ i:Nat,i≤l.length∧v = .int .i64 i∧Hid (Below w.heap.size w wr)) (fun v _=>l.length-(intOf v).toNat)
 case atStart=>exact ⟨0,Nat.zero_le _,by go_num,HB⟩
 case round =>
  obtain ⟨i,hi,rfl,HB1⟩:=hrel
  clear HB
  by_cases hil:i<l.length
  ·obtain ⟨ad0,rfl,hc0⟩:=C_str (Kd.C_below H0.out HB1.out) hil
   obtain ⟨ad1,rfl,hc1⟩:=C_str (Kd.C_below H1.out HB1.out) hil
   have hb0:(l[i].toList == l[i].toList)=true:=beq_self_eq_true _
   have hb1:(l[i].toList != l[i].toList)=false:=by rw [bne,hb0]; rfl
   go_wp2
   go_quiet (fail)
   go_wp2
   rename_i nq
   have HB2:=Lib.hid (show Below w.heap.size w (wr.drewN nq) by apply zab; exact HB1.out)
   go_roundw
   case rel=>exact ⟨i+1,by omega,by go_num,HB2⟩
   case measure=>simp [intOf]; omega
  ·obtain rfl:i=l.length:=by omega
   go_wp2
   go_ret
   exact ⟨rfl,HB1.out⟩
end Go.Proofs.ZQ
end
