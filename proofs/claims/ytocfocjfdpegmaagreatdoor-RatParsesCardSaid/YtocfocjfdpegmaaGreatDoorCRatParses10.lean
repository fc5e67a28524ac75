/- Texts under the proof, joined by a program (prune.py): HText, P92, SPlus, P39, P91, STimes, QRef, QRef2, P166, QRef3. -/
import Derived.Test.YtocfocjfdpegmaaGreatDoorCRatParses08
import Derived.Test.YtocfocjfdpegmaaGreatDoorCRatParses07
import Derived.Test.YtocfocjfdpegmaaGreatDoorCRatParses02
import Derived.Test.YtocfocjfdpegmaaGreatDoorCRatParses09
set_option linter.unusedVariables false
set_option linter.unusedSimpArgs false
set_option exponentiation.threshold 20001
set_option maxHeartbeats 8000000
set_option maxRecDepth 100000
section
namespace Go.Proofs.ZP
open Go.RowKit Go.Proofs.ZW.Wa
def c1_text.f (l0:List Int):Option ByteArray:=if l0=lim (lv l0).toNat∧l0.length≤1099511627776 then some (T (lv l0).toNat) else none
theorem text_lim (n:Nat) (h:(lim n).length≤1099511627776):c1_text.f (lim n)=some (T n):=by
 unfold c1_text.f
 rw [zcg,Int.toNat_natCast,if_pos ⟨rfl,h⟩]
theorem text_some {l:List Int} {r:ByteArray} (h:c1_text.f l=some r):∃ n,l=lim n∧l.length≤1099511627776∧r=T n:=by
 unfold c1_text.f at h
 split at h
 ·rename_i hc
  exact ⟨_,hc.1,hc.2,(Option.some.inj h).symm⟩
 ·cases h
structure XSt (w wr:World) (l:List Int) (v:Value) (bs:List UInt8) (j:Nat):Prop where
 own:wr.ownsRow w.heap.size 5 1 v (bints bs).length (nums .u8 (bints bs))
 below:Below w.heap.size w wr
 dig:Dig bs
 len:bs.length=4*j
 eq:(dval bs:Int)=lv (l.drop (l.length-j))
def four (x:Int):List UInt8:=[UInt8.ofNat (48+x.toNat/1000%10),UInt8.ofNat (48+x.toNat/100%10),UInt8.ofNat (48+x.toNat/10%10),UInt8.ofNat (48+x.toNat%10)]
theorem bints_append (xs bs:List UInt8):bints (xs++bs)=bints xs++bints bs:=by simp [bints]
theorem four_bints {x:Int} (hx:0≤x∧x<10000):bints (four x) = [48+x/1000,48+x/100%10,48+x/10%10,48+x%10]:=by
 unfold four bints
 simp only [List.map_cons,List.map_nil]
 rw [zaZ _ (by omega),zaZ _ (by omega),zaZ _ (by omega),zaZ _ (by omega)]
 have h1:((48+x.toNat/1000%10:Nat):Int)=48+x/1000:=by omega
 have h2:((48+x.toNat/100%10:Nat):Int)=48+x/100%10:=by omega
 have h3:((48+x.toNat/10%10:Nat):Int)=48+x/10%10:=by omega
 have h4:((48+x.toNat%10:Nat):Int)=48+x%10:=by omega
 rw [h1,h2,h3,h4]
theorem four_dig (x:Int):Dig (four x):=by
 intro c hc
 unfold four at hc
 simp only [List.mem_cons,List.not_mem_nil,or_false] at hc
 rcases hc with rfl|rfl|rfl|rfl<;>(rw [zaZ _ (by omega)]; omega)
theorem four_dval {x:Int} (hx:0≤x∧x<10000):(dval (four x):Int)=x:=by
 unfold four dval
 simp only [List.foldl_cons,List.foldl_nil]
 rw [zaZ _ (by omega),zaZ _ (by omega),zaZ _ (by omega),zaZ _ (by omega)]
 omega
theorem raw_four {x:Int} (hx:0≤x∧x<10000):[IntKind.u8.wrap (IntKind.i64.wrap (48+IntKind.i64.wrap (x.tdiv 1000))),IntKind.u8.wrap (IntKind.i64.wrap (48+(IntKind.i64.wrap (x.tdiv 100)).tmod 10)),IntKind.u8.wrap (IntKind.i64.wrap (48+(IntKind.i64.wrap (x.tdiv 10)).tmod 10)),IntKind.u8.wrap (IntKind.i64.wrap (48+x.tmod 10))] = [48+x/1000,48+x/100%10,48+x/10%10,48+x%10]:=by
 have e1:x.tdiv 1000=x/1000:=Int.tdiv_eq_ediv_of_nonneg hx.1
 have e2:x.tdiv 100=x/100:=Int.tdiv_eq_ediv_of_nonneg hx.1
 have e3:x.tdiv 10=x/10:=Int.tdiv_eq_ediv_of_nonneg hx.1
 have e4:x.tmod 10=x%10:=Int.tmod_eq_emod_of_nonneg hx.1
 have f1:IntKind.i64.wrap (x/1000)=x/1000:=by rw [IntKind.wrap_i64]; omega
 have f2:IntKind.i64.wrap (x/100)=x/100:=by rw [IntKind.wrap_i64]; omega
 have f3:IntKind.i64.wrap (x/10)=x/10:=by rw [IntKind.wrap_i64]; omega
 have g2:(x/100).tmod 10=x/100%10:=Int.tmod_eq_emod_of_nonneg (by omega)
 have g3:(x/10).tmod 10=x/10%10:=Int.tmod_eq_emod_of_nonneg (by omega)
 have w8:∀ y:Int,0≤y→y<256→IntKind.u8.wrap (IntKind.i64.wrap y)=y:=fun y h0 h1=>by
  rw [show IntKind.i64.wrap y=y by rw [IntKind.wrap_i64]; omega,IntKind.wrap_u8]; omega
 rw [e1,e2,e3,e4,f1,f2,f3,g2,g3,w8 _ (by omega) (by omega),w8 _ (by omega) (by omega),w8 _ (by omega) (by omega),w8 _ (by omega) (by omega)]
theorem lit_reads (w:World) (xs:List Int) (h:xs.length≤9223372036854775807):ReadsRow (fun (x:Int) (cs:List Value)=>cs = [.int .u8 x]) 1 (w.alloc (.cells (nums .u8 xs).toArray 5)).drew (some ⟨w.heap.size,0,none⟩) xs.length xs:=by
 obtain ⟨A,c,he,hr⟩:=zcS (zcn w w.heap.size 5 .u8 xs (Nat.le_refl _) h).drew (zcN .u8 xs) rfl
 injection he with hA
 rw [hA]; exact hr
theorem rd_bints {bs:List UInt8} {k:Nat} (h:k<bs.length):rd (bints bs) (k:Int)=((bs[k].toNat:Nat):Int):=by
 have h2:k<(bints bs).length:=by unfold bints; rw [List.length_map]; exact h
 rw [rd_lt h2]
 simp [bints]
theorem drop_zero48 {bs:List UInt8} {k:Nat} (h:k<bs.length) (h48:bs[k]=48):dval (bs.drop (k+1))=dval (bs.drop k):=by
 rw [List.drop_eq_getElem_cons h,h48,zbE]
 have:(48:UInt8).toNat=48:=rfl
 rw [this]; omega
theorem drop_text {bs:List UInt8} {k n:Nat} (h:k<bs.length) (h48:bs[k]≠48) (hd:Dig bs) (hv:dval (bs.drop k)=n):strOfNums (bints (bs.drop k))=T n:=by
 have hc:Can (bs.drop k):=by
  refine ⟨by rw [List.length_drop]; omega,hd.drop k,fun e => ?_⟩
  rw [List.drop_eq_getElem_cons h,List.head?_cons] at e
  exact absurd (Option.some.inj e) h48
 have:=zcF _ _ rfl hc
 rw [hv] at this
 rw [str_bints]
 unfold T
 rw [this]
theorem reads_drop {w:World} {g n:Nat} {xs:List Int} (h:ReadsInt w .u8 (some ⟨g,0,none⟩) n xs) (k:Nat) (hk:k≤n):ReadsInt w .u8 (some ⟨g,k,none⟩) (n-k) (xs.drop k):=
 ⟨by rw [List.length_drop,h.1],by have:=h.2.1; omega,fun hp=>⟨⟨g,k,none⟩,rfl,fun j hj=>by
  obtain ⟨ad,he,hc⟩:=h.2.2 (by omega)
  injection he with he
  subst he
  have h2:=hc (k+j) (by omega)
  have e:(⟨g,0,none⟩:Addr).add (k+j)=(⟨g,k,none⟩:Addr).add j:=by rw [add_at,add_at,Nat.zero_add]
  rw [←e,h2]
  simp [List.getD_eq_getElem?_getD,List.getElem?_drop]⟩⟩
theorem bints_drop (bs:List UInt8) (k:Nat):(bints bs).drop k=bints (bs.drop k):=by simp [bints,List.map_drop]
theorem XSt.more {w wr w1:World} {l:List Int} {v v1:Value} {bs:List UInt8} {j m:Nat} {x:Int} (h:XSt w wr l v bs j) (hx:rd l (m:Int)=x) (hx2:0≤x∧x<10000) (hm:m+j+1=l.length)
  (ho:w1.ownsRow w.heap.size 5 1 v1 (bints bs ++ [48+x/1000,48+x/100%10,48+x/10%10,48+x%10]).length (nums .u8 (bints bs ++ [48+x/1000,48+x/100%10,48+x/10%10,48+x%10]))) (hb:Below w.heap.size w w1):Hid (XSt w w1 l v1 (bs++four x) (j+1)):=by
 rw [←four_bints hx2,←bints_append] at ho
 refine ⟨ho,hb,fun c hc=>(List.mem_append.1 hc).elim (h.dig c) (four_dig x c),by rw [List.length_append,h.len]; simp [four]; omega,?_⟩
 rw [za9,show (four x).length=4 from rfl,Int.natCast_add,Int.natCast_mul,h.eq,four_dval hx2]
 have e:l.length-(j+1)=m:=by omega
 have e2:l.length-j=m+1:=by omega
 have hml:m<l.length:=by omega
 rw [e,e2,List.drop_eq_getElem_cons hml]
 simp only [lv]
 rw [←hx,rd_lt hml]
 omega
theorem text_walk (A:Option Addr) (c n:Nat) (w:World) (hr:Kd.C (Kd.int .i64) w A (lim n).length (lim n)) (hc:(lim n).length≤c) (hl:(lim n).length≤1099511627776) :
  Calls Tryz.prog 210 #[.slice A (lim n).length c] w fun e w'=>e = .returned (.string (T n))∧Below w.heap.size w w':=by
 rcases Nat.eq_zero_or_pos n with h0|h0
 ·subst h0
  have hz:lim 0 = []:=zbt
  rw [hz]
  clear hr hc hl hz
  go_enter Tryz.func210,Tryz.ntmps210
  go_wp2
  go_ret
  exact ⟨rfl,Below.refl _ _⟩
 ·have hp:0<(lim n).length:=by rw [zcc h0]; simp
  have hne:(((lim n).length:Int) == 0)=false:=beq_eq_false_iff_ne.2 (by omega)
  have HLV:=Lib.hid (zcg n)
  have HLD:=Lib.hid (lim_ld n)
  generalize lim n=l at *
  obtain ⟨i8,hi8,hz8,hs8,hb8⟩:∃ i,Tryz.prog.info? 5=some i∧i.zero=some (.int .u8 0)∧i.size=1∧i.bytes=1:=by
   have h:=infoU8
   rcases hq:Tryz.prog.info? 5 with _|i
   ·rw [hq] at h; cases h
   ·rw [hq] at h
    simp only [Option.map_some,Option.some.injEq,Prod.mk.injEq] at h
    exact ⟨i,rfl,h.1,h.2.1,h.2.2⟩
  obtain ⟨wm,hmk,how,hgm⟩:=run_make_own (P:=Tryz.prog) (w:=w) w.heap.size 133 5 i8 (.int .u8 0) 1 Tryz.underlying133 hi8 hz8 hs8 .i64 .i64 (4*l.length) (by rw [hb8]; omega) (by unfold maxLen; omega) (Nat.le_refl _)
  rw [show ((4*l.length:Nat):Int)=4*(l.length:Int) by omega] at hmk
  have HX0:Hid (XSt w wm l (.slice (some ⟨w.heap.size,0,none⟩) 0 (4*l.length)) [] 0):=⟨how,⟨hgm.os,hgm.tape,hgm.output,hgm.size,fun k hk=>hgm.block k hk (by simp)⟩,(by intro c hc; cases hc),rfl,by rw [Nat.sub_zero,List.drop_length]; rfl⟩
  clear how hgm hi8 hz8 hs8 hb8
  go_enter Tryz.func210,Tryz.ntmps210
  go_wp2_with fail
  go_loopw [3,4] (fun vb vi wr=>∃ (bs:List UInt8) (j:Nat),j≤l.length∧vi = .int .i64 ((l.length:Int)-1-j)∧Hid (XSt w wr l vb bs j)) (fun _ vi _=>(intOf vi+1).toNat)
  case atStart=>exact ⟨[],0,by omega,by go_num,HX0⟩
  case round =>
   obtain ⟨bs,j,hj,rfl,HX⟩:=hrel
   by_cases hjl:j<l.length
   ·obtain ⟨m,hm⟩:∃ m:Nat,m+j+1=l.length:=⟨l.length-1-j,by omega⟩
    rw [show (l.length:Int)-1-(j:Int)=(m:Int) by omega]
    obtain ⟨ad,rfl,hcw⟩:=Kd.at_int hr (m:Int) (by omega) (by omega)
    rw [Int.toNat_natCast] at hcw
    have hx:=HLD.out.rd (m:Int)
    obtain ⟨hx0,hx1⟩:=hx
    generalize hxe:rd l (m:Int)=x at hcw hx0 hx1
    have HXE:=Lib.hid hxe
    have hcell:=bcell HX.out.below hcw
    obtain ⟨A8,c8,rfl,hr8⟩:=zbB HX.out.own
    have hmI:(m:Int)<(l.length:Int):=by omega
    have hmN:m<l.length:=by omega
    have HM:=Lib.hid hm
    clear hxe hr8 hm
    have hll:((bints bs).length+4)*1≤140737488355328:=by have:=HX.out.len; unfold bints; rw [List.length_map]; omega
    have HRW:=Lib.hid (R_of_own8 (World.ownsRow.drew ((HX.out.own.alloc (.cells #[.int .u8 (IntKind.u8.wrap (IntKind.i64.wrap (48+IntKind.i64.wrap (x.tdiv 1000)))),.int .u8 (IntKind.u8.wrap (IntKind.i64.wrap (48+(IntKind.i64.wrap (x.tdiv 100)).tmod 10))),.int .u8 (IntKind.u8.wrap (IntKind.i64.wrap (48+(IntKind.i64.wrap (x.tdiv 10)).tmod 10))),.int .u8 (IntKind.u8.wrap (IntKind.i64.wrap (48+x.tmod 10)))] 5)))))
    have HLT:=Lib.hid (lit_reads wr [IntKind.u8.wrap (IntKind.i64.wrap (48+IntKind.i64.wrap (x.tdiv 1000))),IntKind.u8.wrap (IntKind.i64.wrap (48+(IntKind.i64.wrap (x.tdiv 100)).tmod 10)),IntKind.u8.wrap (IntKind.i64.wrap (48+(IntKind.i64.wrap (x.tdiv 10)).tmod 10)),IntKind.u8.wrap (IntKind.i64.wrap (48+x.tmod 10))] (by simp))
    have hbw:=zat ((bthen HX.out.below (zaa (Below.refl wr.heap.size wr) (.cells #[.int .u8 (IntKind.u8.wrap (IntKind.i64.wrap (48+IntKind.i64.wrap (x.tdiv 1000)))),.int .u8 (IntKind.u8.wrap (IntKind.i64.wrap (48+(IntKind.i64.wrap (x.tdiv 100)).tmod 10))),.int .u8 (IntKind.u8.wrap (IntKind.i64.wrap (48+(IntKind.i64.wrap (x.tdiv 10)).tmod 10))),.int .u8 (IntKind.u8.wrap (IntKind.i64.wrap (48+x.tmod 10)))] 5))))
    have HBW:=Lib.hid hbw
    have hsb:=hbw.size
    clear hbw
    go_wp2_with fail
    go_region_held3 (fun w'=>w'.cell? (ad.add m)=some (.int .i64 x)) (first|go_keep|exact hcell|exact bcell hb hcw)
     ((first
      | (refine Kd.R_append_rows_step (Kd.int .u8) (Rr:=fun (y:Int) (cs:List Value)=>cs = [.int .u8 y]) w.heap.size (by rfl) _ _ 133 5 (.int .u8 0) 1 rfl Tryz.underlying133 infoU8 rfl (by decide) (by decide) (.slice A8 (bints bs).length c8) (bints bs) [IntKind.u8.wrap (IntKind.i64.wrap (48+IntKind.i64.wrap (x.tdiv 1000))),IntKind.u8.wrap (IntKind.i64.wrap (48+(IntKind.i64.wrap (x.tdiv 100)).tmod 10)),IntKind.u8.wrap (IntKind.i64.wrap (48+(IntKind.i64.wrap (x.tdiv 10)).tmod 10)),IntKind.u8.wrap (IntKind.i64.wrap (48+x.tmod 10))] (some ⟨wr.heap.size,0,none⟩) 4 4 (fun _=>True) (fun _=>False) rfl rfl HRW.out HLT.out (fun _ _ h=>h) (fun _ h=>h.elim) (fun _ _=>trivial) HBW.out hsb hll ?_; intro v1 w1 hown hb hg hat)))
    rw [raw_four ⟨hx0,hx1⟩] at hown
    have HX2:=HX.out.more (x:=x) HXE.out ⟨hx0,hx1⟩ HM.out (own8_of_R hown) hb
    clear hown hg hat
    go_wp2
    go_roundw
    case rel=>exact ⟨bs++four x,j+1,by omega,congrArg (Value.int .i64) (by have:=HM.out; omega),HX2⟩
    case measure=>first|(simp [intOf]; done)|(simp [intOf]; omega)
   ·have hjj:j=l.length:=by omega
    subst hjj
    have hv:=HX.out.eq
    rw [Nat.sub_self,List.drop_zero,HLV.out] at hv
    have HV:=Lib.hid (show dval (bs.drop 0)=n by rw [List.drop_zero]; omega)
    have hbl:=HX.out.len
    have hbp:0<bs.length:=by omega
    have HBL:=Lib.hid hbl
    clear hv hbl
    rw [show (l.length:Int)-1-(l.length:Int) = -1 by omega]
    obtain ⟨g,cap,rfl,hg0,hg1⟩:=World.ownsRow.form HX.out.own (by unfold bints; rw [List.length_map]; exact hbp)
    clear hg1
    go_wp2_with fail
    go_loopw [5] (fun vk wr'=>∃ k:Nat,vk = .int .i64 k∧Hid (k≤bs.length∧dval (bs.drop k)=n)∧Hid (XSt w wr' l (.slice (some ⟨g,0,none⟩) (bints bs).length cap) bs l.length)) (fun vk _=>bs.length-(intOf vk).toNat)
    case atStart=>exact ⟨0,by go_num,Lib.hid ⟨by omega,HV.out⟩,HX⟩
    case round =>
     obtain ⟨k,rfl,HK,HX2⟩:=hrel
     have hk:k<bs.length:=by
      apply Classical.byContradiction
      intro hn
      have h1:=HK.out.2
      rw [List.drop_eq_nil_of_le (by omega),show dval []=0 from rfl] at h1
      omega
     have hkb:k<(bints bs).length:=by unfold bints; rw [List.length_map]; exact hk
     have hkI:(k:Int)<((bints bs).length:Int):=by omega
     have hcap:=own_le HX2.out.own
     obtain ⟨hs1,hs2⟩:=zbP HX2.out.own (k:Int) (by omega) hkI
     rw [Int.toNat_natCast,rd_bints hk] at hs1
     have hbm:bs.length≤4398046511104:=by have:=HBL.out; omega
     by_cases h48:bs[k]=48
     ·rw [h48,show (((48:UInt8).toNat:Nat):Int)=48 from rfl] at hs1
      have HD:=Lib.hid (drop_zero48 hk h48)
      clear h48 hs2
      go_wp2
      go_roundw
      case rel=>exact ⟨k+1,by go_num,Lib.hid ⟨by omega,HD.out.trans HK.out.2⟩,HX2⟩
      case measure=>simp [intOf]; omega
     ·have hne:(((bs[k].toNat:Nat):Int) == 48)=false:=beq_eq_false_iff_ne.2 (fun e=>h48 (UInt8.toNat_inj.1 (by have:(48:UInt8).toNat=48:=rfl; omega)))
      have HFIN:=Lib.hid (drop_text hk h48 (HX2.out.dig) HK.out.2)
      have HR:=Lib.hid (zbJ HX2.out.own)
      clear h48 hs2
      generalize ((bs[k].toNat:Nat):Int)=u at hs1 hne
      have hcv:=string_of_reads (P:=Tryz.prog) (c:=cap-k) Tryz.underlying133 Tryz.underlying5 Tryz.underlying9 (reads_drop HR.out k (by omega))
      rw [bints_drop,HFIN.out] at hcv
      have hB:=HX2.out.below
      go_wp2
      go_ret
      exact ⟨rfl,hB⟩
theorem c1_text.calls (A0:Option Addr) (c0:Nat) (l0:List Int) (r:ByteArray) (w:World) (hr0:Kd.C (Kd.int .i64) w A0 l0.length l0) (hc0:l0.length≤c0) (h:c1_text.f l0=some r) :
  Calls Tryz.prog 210 #[.slice A0 l0.length c0] w fun e w'=>e = .returned (.string r)∧Below w.heap.size w w':=by
 obtain ⟨n,rfl,hl,rfl⟩:=text_some h
 exact text_walk A0 c0 n w hr0 hc0 hl
end Go.Proofs.ZP
end
section
namespace Go.Proofs.ZP
open Go.RowKit Go.Proofs.ZW.Wa Go.Proofs.ZW.Wb Go.Proofs.ZW.Wc
attribute [local go_sem] zaH zaF zaW zaV zaA zaz zaG zaE
mutual
def c1_Plus.l0:Nat→List Int→List Int→List Int→Int→Int→Option (ByteArray)
 | 0,_,_,_,_,_=>none
 | k+1,x5,x6,x7,x8,x9=>if x9<(x5.length:Int) then (c1_Plus.j1 k x5 x6 x7 x8 x9 true) else (if x9<(x6.length:Int) then (c1_Plus.j1 k x5 x6 x7 x8 x9 true) else (c1_Plus.j1 k x5 x6 x7 x8 x9 (decide (x8>0))))
def c1_Plus.j1:Nat→List Int→List Int→List Int→Int→Int→Bool→Option (ByteArray)
 | 0,_,_,_,_,_,_=>none
 | k+1,x5,x6,x7,x8,x9,x27=>if x27=true then (if x9<(x5.length:Int) then (if 0≤x9 then (if x9<(x6.length:Int) then (if x7.length<17592186044416 then (c1_Plus.l0 k x5 x6 (x7 ++ [Int.tmod (wrap64 ((wrap64 (x8+(rd x5 x9)))+(rd x6 x9))) 10000]) (wrap64 (Int.tdiv (wrap64 ((wrap64 (x8+(rd x5 x9)))+(rd x6 x9))) 10000)) (wrap64 (x9+1))) else (none)) else (if x7.length<17592186044416 then (c1_Plus.l0 k x5 x6 (x7 ++ [Int.tmod (wrap64 (x8+(rd x5 x9))) 10000]) (wrap64 (Int.tdiv (wrap64 (x8+(rd x5 x9))) 10000)) (wrap64 (x9+1))) else (none))) else (none)) else (if x9<(x6.length:Int) then (if 0≤x9 then (if x7.length<17592186044416 then (c1_Plus.l0 k x5 x6 (x7 ++ [Int.tmod (wrap64 (x8+(rd x6 x9))) 10000]) (wrap64 (Int.tdiv (wrap64 (x8+(rd x6 x9))) 10000)) (wrap64 (x9+1))) else (none)) else (none)) else (if x7.length<17592186044416 then (c1_Plus.l0 k x5 x6 (x7 ++ [Int.tmod x8 10000]) (wrap64 (Int.tdiv x8 10000)) (wrap64 (x9+1))) else (none)))) else ((c1_trim.f k x7).bind fun t287=>((c1_text.f t287).bind fun t290=>(some t290)))
end
def c1_Plus.f (k:Nat) (a0:ByteArray) (a1:ByteArray):Option (ByteArray):=(c1_limbs.f k a0).bind fun t281=>((c1_limbs.f k a1).bind fun t284=>(c1_Plus.l0 k t281 t284 ([]:List Int) 0 0))
end Go.Proofs.ZP
end
section
namespace Go.Proofs.ZP
open Go.RowKit Go.Proofs.ZW.Wa
def rz (xs:List Int) (i:Nat):Int:=if i<xs.length then rd xs (i:Int) else 0
theorem lv_drop (xs:List Int) (i:Nat):lv (xs.drop i)=rz xs i+10000*lv (xs.drop (i+1)):=by
 unfold rz
 split
 ·rename_i h
  rw [List.drop_eq_getElem_cons h,rd_lt h]; rfl
 ·rename_i h
  rw [List.drop_eq_nil_of_le (by omega),List.drop_eq_nil_of_le (by omega)]; rfl
theorem Ld.snoc {xs:List Int} (h:Ld xs) {v:Int} (h0:0≤v) (h1:v<10000):Ld (xs ++ [v]):=h.append (Ld.cons h0 h1 Ld.nil)
theorem lv_snoc (xs:List Int) (v:Int):lv (xs ++ [v])=lv xs+10000^xs.length*v:=by rw [zcp]; simp [lv]
def Fine (n:Nat):Prop:=(T n).size≤274877906944
theorem Fine.lim {n:Nat} (h:Fine n):(lim n).length≤274877906944:=by have:=za8 n; unfold Fine at h; omega
end Go.Proofs.ZP
end
section
namespace Go.Proofs.ZP
open Go.RowKit Go.Proofs.ZW.Wa Go.Proofs.ZW.Wb Go.Proofs.ZW.Wc
attribute [local go_sem] zaH zaF zaW zaV zaA zaz zaG zaE
mutual
def c1_times.l0:Nat→List Int→List Int→List Int→Int→Option (List Int)
 | 0,_,_,_,_=>none
 | k+1,x0,x1,x5,x6=>if x6<(x0.length:Int) then (c1_times.l1 k x0 x1 x5 x6 0 0) else ((c1_trim.f k x5).bind fun t181=>(some t181))
def c1_times.l1:Nat→List Int→List Int→List Int→Int→Int→Int→Option (List Int)
 | 0,_,_,_,_,_,_=>none
 | k+1,x0,x1,x5,x6,x7,x8=>if x8<(x1.length:Int) then (if 0≤(wrap64 (x6+x8)) then (if (wrap64 (x6+x8))<(x5.length:Int) then (if 0≤x6 then (if x6<(x0.length:Int) then (if 0≤x8 then (c1_times.l1 k x0 x1 (x5.set ((wrap64 (x6+x8)):Int).toNat (Int.tmod (wrap64 ((wrap64 (x7+(rd x5 (wrap64 (x6+x8)))))+(wrap64 ((rd x0 x6)*(rd x1 x8))))) 10000)) x6 (wrap64 (Int.tdiv (wrap64 ((wrap64 (x7+(rd x5 (wrap64 (x6+x8)))))+(wrap64 ((rd x0 x6)*(rd x1 x8))))) 10000)) (wrap64 (x8+1))) else (none)) else (none)) else (none)) else (none)) else (none)) else (c1_times.l2 k x0 x1 x5 x6 x7 (wrap64 (x6+(x1.length:Int))))
def c1_times.l2:Nat→List Int→List Int→List Int→Int→Int→Int→Option (List Int)
 | 0,_,_,_,_,_,_=>none
 | k+1,x0,x1,x5,x6,x7,x9=>if x7>0 then (if 0≤x9 then (if x9<(x5.length:Int) then (c1_times.l2 k x0 x1 (x5.set (x9:Int).toNat (Int.tmod (wrap64 (x7+(rd x5 x9))) 10000)) x6 (wrap64 (Int.tdiv (wrap64 (x7+(rd x5 x9))) 10000)) (wrap64 (x9+1))) else (none)) else (none)) else (c1_times.l0 k x0 x1 x5 (wrap64 (x6+1)))
end
def c1_times.f (k:Nat) (l0:List Int) (l1:List Int):Option (List Int):=if 0≤(wrap64 ((l0.length:Int)+(l1.length:Int))) then (if (wrap64 ((l0.length:Int)+(l1.length:Int)):Int).toNat≤35184372088832 then (c1_times.l0 k l0 l1 (List.replicate (wrap64 ((l0.length:Int)+(l1.length:Int)):Int).toNat 0) 0) else (none)) else (none)
theorem c1_times.calls (k:Nat) (A0:Option Addr) (c0:Nat) (l0:List Int) (A1:Option Addr) (c1:Nat) (l1:List Int) (r:List Int) (w:World) (hr0:Kd.C (Kd.int .i64) w A0 l0.length l0) (hc0:l0.length≤c0) (hr1:Kd.C (Kd.int .i64) w A1 l1.length l1) (hc1:l1.length≤c1) (h:c1_times.f k l0 l1=some r) :
  Calls Tryz.prog 211 #[.slice A0 l0.length c0,.slice A1 l1.length c1] w fun e w'=>∃ v0_:Value,e = .returned (v0_)∧Kd.V (Kd.int .i64) 3 w' w.heap.size (fun k_=>(w.heap.size≤k_)) v0_ r∧Below w.heap.size w w':=by
 have HR0:=Aside0.mk hr0
 have HC0:=Aside0.mk hc0
 clear hr0 hc0
 have HR1:=Aside0.mk hr1
 have HC1:=Aside0.mk hc1
 clear hr1 hc1
 have HB:=Aside0.mk (Below.refl w.heap.size w)
 have H:(if 0≤(wrap64 ((l0.length:Int)+(l1.length:Int))) then (if (wrap64 ((l0.length:Int)+(l1.length:Int)):Int).toNat≤35184372088832 then (c1_times.l0 k l0 l1 (List.replicate (wrap64 ((l0.length:Int)+(l1.length:Int)):Int).toNat 0) 0) else (none)) else (none))=some r:=h
 clear h
 obtain ⟨ji3,hji3⟩:∃ j_:Int,(wrap64 ((l0.length:Int)+(l1.length:Int)))=j_:=⟨_,rfl⟩
 replace H:(if 0≤(ji3) then (if (ji3:Int).toNat≤35184372088832 then (c1_times.l0 k l0 l1 (List.replicate (ji3:Int).toNat 0) 0) else (none)) else (none))=some r:=by first|(rw [hji3] at H; exact H)|(simp only [hji3] at H ⊢; exact H)
 have hji3w:(IntKind.i64.wrap ((l0.length:Int)+(l1.length:Int)))=ji3:=(i64_w _).trans hji3
 by_cases c4:0≤(ji3)
 ·rw [if_pos c4] at H
  have c4b0:=eq_true c4
  have c4b1:decide (0≤(ji3))=true:=decide_eq_true c4
  clear c4
  by_cases c5:(ji3:Int).toNat≤35184372088832
  ·rw [if_pos c5] at H
   have c5b0:=eq_true c5
   have c5b1:decide ((ji3:Int).toNat≤35184372088832)=true:=decide_eq_true c5
   clear c5
   obtain ⟨y178,hy178⟩:∃ y_:List Int,y_=(List.replicate (ji3:Int).toNat 0):=⟨_,rfl⟩
   replace H:(c1_times.l0 k l0 l1 y178 0)=some r:=by first|(rw [hy178]; with_reducible exact H)|(have H2_:=(Option.bind_some _ _).symm.trans H; rw [hy178]; with_reducible exact H2_)|(have H2_:=(Option.bind_some _ _).symm.trans H; with_reducible exact H2_)|with_reducible exact H|(rw [hy178]; exact H)|exact H
   have Ny178:=Aside0.mk hy178
   clear hy178
   have H':=Aside0.mk H
   clear H
   go_enter Tryz.func211,Tryz.ntmps211
   go_wp2_with (first|((with_reducible refine za4 (N:=15) rfl ?_); refine Kd.R_make (Kd.int .i64) _ 3 rfl (N:=15) rfl 205 _ _ rfl ji3 rfl rfl Tryz.underlying205 (.int .i64 0) 8 info3 rfl (by decide) (by omega) 0 (ok:=fun _=>True) (okp:=fun _=>True) rfl (fun _ hk=>hk) trivial (of_decide_eq_true (by first|(with_reducible assumption)|assumption)) (Nat.le_trans (Nat.mul_le_mul_right _ (of_decide_eq_true (by first|(with_reducible assumption)|assumption):ji3.toNat≤35184372088832)) (by omega)) (Below.refl _ _) (Nat.le_refl _) ?_; intro v179 w6 ho7 hb hg_ hnew_; clear hg_ hnew_; (first|rw [←Ny178.out] at ho7|(simp only [Int.reduceToNat] at ho7; rw [←Ny178.out] at ho7)); have n0_:=Aside0.mk (Kd.R_lower (Kd.R_newM (M:=fun k_=>(w.heap.size≤k_)) ho7 (zaq (by repeat (first|(with_reducible first|exact HB.out|apply zaa|apply zab|apply zae)|exact HB.out))) (fun k_ h_=>h_)) (zaq (by repeat (first|(with_reducible first|exact HB.out|apply zaa|apply zab|apply zae)|exact HB.out)))); have n1_:=Aside0.mk (zar (by repeat (first|(with_reducible first|exact HB.out|apply zaa|apply zab|apply zae)|exact HB.out)) hb); clear HB; have HO180:=n0_; have HB:=n1_; clear n0_ n1_; clear hb ho7))
   repeat (go_quiet (first|((with_reducible refine za4 (N:=15) rfl ?_); refine Kd.R_make (Kd.int .i64) _ 3 rfl (N:=15) rfl 205 _ _ rfl ji3 rfl rfl Tryz.underlying205 (.int .i64 0) 8 info3 rfl (by decide) (by omega) 0 (ok:=fun _=>True) (okp:=fun _=>True) rfl (fun _ hk=>hk) trivial (of_decide_eq_true (by first|(with_reducible assumption)|assumption)) (Nat.le_trans (Nat.mul_le_mul_right _ (of_decide_eq_true (by first|(with_reducible assumption)|assumption):ji3.toNat≤35184372088832)) (by omega)) (Below.refl _ _) (Nat.le_refl _) ?_; intro v179 w6 ho7 hb hg_ hnew_; clear hg_ hnew_; (first|rw [←Ny178.out] at ho7|(simp only [Int.reduceToNat] at ho7; rw [←Ny178.out] at ho7)); have n0_:=Aside0.mk (Kd.R_lower (Kd.R_newM (M:=fun k_=>(w.heap.size≤k_)) ho7 (zaq (by repeat (first|(with_reducible first|exact HB.out|apply zaa|apply zab|apply zae)|exact HB.out))) (fun k_ h_=>h_)) (zaq (by repeat (first|(with_reducible first|exact HB.out|apply zaa|apply zab|apply zae)|exact HB.out)))); have n1_:=Aside0.mk (zar (by repeat (first|(with_reducible first|exact HB.out|apply zaa|apply zab|apply zae)|exact HB.out)) hb); clear HB; have HO180:=n0_; have HB:=n1_; clear n0_ n1_; clear hb ho7)); try go_wp2_with (first|((with_reducible refine za4 (N:=15) rfl ?_); refine Kd.R_make (Kd.int .i64) _ 3 rfl (N:=15) rfl 205 _ _ rfl ji3 rfl rfl Tryz.underlying205 (.int .i64 0) 8 info3 rfl (by decide) (by omega) 0 (ok:=fun _=>True) (okp:=fun _=>True) rfl (fun _ hk=>hk) trivial (of_decide_eq_true (by first|(with_reducible assumption)|assumption)) (Nat.le_trans (Nat.mul_le_mul_right _ (of_decide_eq_true (by first|(with_reducible assumption)|assumption):ji3.toNat≤35184372088832)) (by omega)) (Below.refl _ _) (Nat.le_refl _) ?_; intro v179 w6 ho7 hb hg_ hnew_; clear hg_ hnew_; (first|rw [←Ny178.out] at ho7|(simp only [Int.reduceToNat] at ho7; rw [←Ny178.out] at ho7)); have n0_:=Aside0.mk (Kd.R_lower (Kd.R_newM (M:=fun k_=>(w.heap.size≤k_)) ho7 (zaq (by repeat (first|(with_reducible first|exact HB.out|apply zaa|apply zab|apply zae)|exact HB.out))) (fun k_ h_=>h_)) (zaq (by repeat (first|(with_reducible first|exact HB.out|apply zaa|apply zab|apply zae)|exact HB.out)))); have n1_:=Aside0.mk (zar (by repeat (first|(with_reducible first|exact HB.out|apply zaa|apply zab|apply zae)|exact HB.out)) hb); clear HB; have HO180:=n0_; have HB:=n1_; clear n0_ n1_; clear hb ho7)))
   go_loopg [6] k (fun kq v6 w'=>∃ (x5_1:List Int) (x6_1:Int),v6 = .int .i64 x6_1∧Aside0 (c1_times.l0 kq l0 l1 x5_1 x6_1=some r)∧Aside0 (kq≤k)∧Aside0 (Kd.R (Kd.int .i64) 3 w' w.heap.size (fun k_=>(w.heap.size≤k_)) v179 x5_1)∧Aside0 (Below w.heap.size w w'))
   case atStart=>exact ⟨(y178),(0),(by first|rfl|(simp; done)|(simp [*]; done)),H',⟨Nat.le_refl _⟩,⟨by (with_reducible repeat (first|apply Kd.R_alloc|apply Kd.R_drewN|apply Kd.R_drew)); exact Kd.R_mono HO180.out (fun _ hk=>hk.1)⟩,⟨by repeat (first|(with_reducible first|exact HB.out|apply zaa|apply zab|apply zae)|exact HB.out)⟩⟩
   case round =>
    clear H'
    try clear c1
    try clear c2
    try clear p2
    try clear c4
    try clear c4b0
    try clear c4b1
    try clear c5
    try clear c5b0
    try clear c5b1
    try clear p6
    obtain ⟨x5_1,x6_1,rfl,HA,HK1,HO_5,HB⟩:=hrel
    cases gk with
    | zero=>exact absurd HA.out (by simp [c1_times.l0])
    | succ k1 =>
     have H:=HA.out
     clear HA
     simp only [c1_times.l0] at H
     by_cases c8:x6_1<(l0.length:Int)
     ·rw [if_pos c8] at H
      have c8b0:decide (x6_1<(l0.length:Int))=true:=decide_eq_true c8
      clear c8
      have H':=Aside0.mk H
      clear H
      go_wp2
      repeat (go_quiet (fail); try go_wp2)
      go_loopg [7,8] k1 (fun kq v7 v8 w'=>∃ (x5_2:List Int) (x7_2:Int) (x8_2:Int),v7 = .int .i64 x7_2∧v8 = .int .i64 x8_2∧Aside0 (c1_times.l1 kq l0 l1 x5_2 x6_1 x7_2 x8_2=some r)∧Aside0 (kq≤k1)∧Aside0 (Kd.R (Kd.int .i64) 3 w' w.heap.size (fun k_=>(w.heap.size≤k_)) v179 x5_2)∧Aside0 (Below w.heap.size w w'))
      case atStart=>exact ⟨(x5_1),(0),(0),(by first|rfl|(simp; done)|(simp [*]; done)),(by first|rfl|(simp; done)|(simp [*]; done)),H',⟨Nat.le_refl _⟩,⟨by (with_reducible repeat (first|apply Kd.R_alloc|apply Kd.R_drewN|apply Kd.R_drew)); exact HO_5.out⟩,⟨by repeat (first|(with_reducible first|exact HB.out|apply zaa|apply zab|apply zae)|exact HB.out)⟩⟩
      case round =>
       clear H'
       try clear c1
       try clear c2
       try clear p2
       try clear c4
       try clear c4b0
       try clear c4b1
       try clear c5
       try clear c5b0
       try clear c5b1
       try clear p6
       try clear c8
       try clear c8b0
       try clear p2
       try clear p6
       obtain ⟨x5_2,x7_2,x8_2,rfl,rfl,HA,HK2,HO_5,HB⟩:=hrel
       cases gk with
       | zero=>exact absurd HA.out (by simp [c1_times.l1])
       | succ k2 =>
        have H:=HA.out
        clear HA
        simp only [c1_times.l1] at H
        by_cases c9:x8_2<(l1.length:Int)
        ·rw [if_pos c9] at H
         have c9b0:decide (x8_2<(l1.length:Int))=true:=decide_eq_true c9
         clear c9
         obtain ⟨ji10,hji10⟩:∃ j_:Int,(wrap64 (x6_1+x8_2))=j_:=⟨_,rfl⟩
         replace H:(if 0≤(ji10) then (if (ji10)<(x5_2.length:Int) then (if 0≤x6_1 then (if x6_1<(l0.length:Int) then (if 0≤x8_2 then (c1_times.l1 k2 l0 l1 (x5_2.set ((ji10):Int).toNat (Int.tmod (wrap64 ((wrap64 (x7_2+(rd x5_2 (ji10))))+(wrap64 ((rd l0 x6_1)*(rd l1 x8_2))))) 10000)) x6_1 (wrap64 (Int.tdiv (wrap64 ((wrap64 (x7_2+(rd x5_2 (ji10))))+(wrap64 ((rd l0 x6_1)*(rd l1 x8_2))))) 10000)) (wrap64 (x8_2+1))) else (none)) else (none)) else (none)) else (none)) else (none))=some r:=by first|(rw [hji10] at H; exact H)|(simp only [hji10] at H ⊢; exact H)
         have hji10w:(IntKind.i64.wrap (x6_1+x8_2))=ji10:=(i64_w _).trans hji10
         by_cases c11:0≤(ji10)
         ·rw [if_pos c11] at H
          have c11b0:decide (0≤(ji10))=true:=decide_eq_true c11
          clear c11
          by_cases c12:(ji10)<(x5_2.length:Int)
          ·rw [if_pos c12] at H
           have c12b0:decide ((ji10)<(x5_2.length:Int))=true:=decide_eq_true c12
           clear c12
           by_cases c13:0≤x6_1
           ·rw [if_pos c13] at H
            have c13b0:decide (0≤x6_1)=true:=decide_eq_true c13
            clear c13
            by_cases c14:x6_1<(l0.length:Int)
            ·rw [if_pos c14] at H
             have c14b0:decide (x6_1<(l0.length:Int))=true:=decide_eq_true c14
             clear c14
             by_cases c15:0≤x8_2
             ·rw [if_pos c15] at H
              have c15b0:decide (0≤x8_2)=true:=decide_eq_true c15
              clear c15
              obtain ⟨y187,hy187⟩:∃ y_:List Int,y_=(x5_2.set ((ji10):Int).toNat (Int.tmod (wrap64 ((wrap64 (x7_2+(rd x5_2 (ji10))))+(wrap64 ((rd l0 x6_1)*(rd l1 x8_2))))) 10000)):=⟨_,rfl⟩
              replace H:(c1_times.l1 k2 l0 l1 y187 x6_1 (wrap64 (Int.tdiv (wrap64 ((wrap64 (x7_2+(rd x5_2 (ji10))))+(wrap64 ((rd l0 x6_1)*(rd l1 x8_2))))) 10000)) (wrap64 (x8_2+1)))=some r:=by first|(rw [hy187]; with_reducible exact H)|(have H2_:=(Option.bind_some _ _).symm.trans H; rw [hy187]; with_reducible exact H2_)|(have H2_:=(Option.bind_some _ _).symm.trans H; with_reducible exact H2_)|with_reducible exact H|(rw [hy187]; exact H)|exact H
              have Ny187:=Aside0.mk hy187
              clear hy187
              have H':=Aside0.mk H
              clear H
              obtain ⟨Ao17,co17,eo17⟩:=Kd.R_slice HO_5.out
              subst eo17
              have p184:0≤((ji10):Int):=of_decide_eq_true (by first|(with_reducible assumption)|assumption)
              have q184:(ji10)<(x5_2.length:Int):=of_decide_eq_true (by first|(with_reducible assumption)|assumption)
              obtain ⟨ad184,e184,hx184_0⟩:=Kd.at_int (Kd.R_reads' HO_5.out).2.2 (ji10) p184 q184
              cases e184
              replace p184:=eq_true p184
              replace q184:=eq_true q184
              have p185:0≤(x6_1:Int):=of_decide_eq_true (by first|(with_reducible assumption)|assumption)
              have q185:x6_1<(l0.length:Int):=of_decide_eq_true (by first|(with_reducible assumption)|assumption)
              obtain ⟨ad185,e185,hx185_0⟩:=Kd.at_int HR0.out x6_1 p185 q185
              cases e185
              replace hx185_0:=(HB.out.cell (World.block_lt_of_cell? w _ hx185_0)).trans hx185_0
              replace p185:=eq_true p185
              replace q185:=eq_true q185
              have p186:0≤(x8_2:Int):=of_decide_eq_true (by first|(with_reducible assumption)|assumption)
              have q186:x8_2<(l1.length:Int):=of_decide_eq_true (by first|(with_reducible assumption)|assumption)
              obtain ⟨ad186,e186,hx186_0⟩:=Kd.at_int HR1.out x8_2 p186 q186
              cases e186
              replace hx186_0:=(HB.out.cell (World.block_lt_of_cell? w _ hx186_0)).trans hx186_0
              replace p186:=eq_true p186
              replace q186:=eq_true q186
              have p16:0≤((ji10):Int):=of_decide_eq_true (by first|(with_reducible assumption)|assumption)
              have q16:((ji10):Int)<((x5_2.length:Int):Int):=of_decide_eq_true (by first|(with_reducible assumption)|assumption)
              obtain ⟨go16,co16,eo16,gb16,gl16,cl16,HG16⟩:=Kd.R_form HO_5.out (by omega)
              (first|cases eo16|(injection eo16 with ea_ en_ ec_; (first|subst ea_|(injection ea_ with ea_; subst ea_)); subst ec_; clear en_))
              have GB16:=Aside0.mk gb16
              have GG16:=Aside0.mk HG16
              clear gb16 gl16 HG16
              (first|simp only [zbe] at hx184_0|skip)
              obtain ⟨hx16_0,hf16_0⟩:=Kd.R_celln 0 HO_5.out ((ji10):Int) p16 q16
              replace p16:=eq_true p16
              replace q16:=eq_true q16
              have HP18:=Kd.R_putg HO_5.out ((ji10):Int) (Int.tmod (wrap64 ((wrap64 (x7_2+(rd x5_2 (ji10))))+(wrap64 ((rd l0 x6_1)*(rd l1 x8_2))))) 10000)
              go_wp2_with (first|((with_reducible refine za3 (t:=3) (p:=52) rfl ?_); (try (rw [zbL wr]; generalize hq_:World.drewN wr _=wr; have n0_:=Aside0.mk (Kd.R_at hq_ HO_5.out); have n1_:=Aside0.mk (zcw hq_ HB.out); clear hq_ HO_5 HB; have HO_5:=n0_; have HB:=n1_; clear n0_ n1_; (try (have HP18:=Kd.R_putg HO_5.out ((ji10):Int) (Int.tmod (wrap64 ((wrap64 (x7_2+(rd x5_2 (ji10))))+(wrap64 ((rd l0 x6_1)*(rd l1 x8_2))))) 10000))))); refine zaU (t:=3) (p:=52) (v:=?vo_w19) (w1:=(wr.setCell ⟨go16,((ji10):Int).toNat,none⟩ (.int .i64 (Int.tmod (wrap64 ((wrap64 (x7_2+(rd x5_2 (ji10))))+(wrap64 ((rd l0 x6_1)*(rd l1 x8_2))))) 10000)))) ?hg ?ho ?hn ?hr ?_; (case ho=>rfl); (case hg=>rfl); (case hn=>rfl); (case hr=>first|(go_simp; done)|(go_simp; rfl)); intro w19 hw; have hg:wr.grownBy w19 (some go16):=(by rw [hw]; exact HP18.2); have hp_:Kd.R (Kd.int .i64) 3 w19 w.heap.size (fun k_=>(w.heap.size≤k_)) (.slice (some ⟨go16,0,none⟩) x5_2.length co17) y187:=(by rw [hw,Ny187.out]; exact HP18.1); clear HP18; have n0_:=Aside0.mk (hp_); have n1_:=Aside0.mk ((by rw [hw]; exact zag (HB.out) GB16.out:Below w.heap.size w w19)); clear HO_5; clear HB; have HO_5:=n0_; have HB:=n1_; clear n0_ n1_; clear hg hw hp_))
              repeat (go_quiet (first|((with_reducible refine za3 (t:=3) (p:=52) rfl ?_); (try (rw [zbL wr]; generalize hq_:World.drewN wr _=wr; have n0_:=Aside0.mk (Kd.R_at hq_ HO_5.out); have n1_:=Aside0.mk (zcw hq_ HB.out); clear hq_ HO_5 HB; have HO_5:=n0_; have HB:=n1_; clear n0_ n1_; (try (have HP18:=Kd.R_putg HO_5.out ((ji10):Int) (Int.tmod (wrap64 ((wrap64 (x7_2+(rd x5_2 (ji10))))+(wrap64 ((rd l0 x6_1)*(rd l1 x8_2))))) 10000))))); refine zaU (t:=3) (p:=52) (v:=?vo_w19) (w1:=(wr.setCell ⟨go16,((ji10):Int).toNat,none⟩ (.int .i64 (Int.tmod (wrap64 ((wrap64 (x7_2+(rd x5_2 (ji10))))+(wrap64 ((rd l0 x6_1)*(rd l1 x8_2))))) 10000)))) ?hg ?ho ?hn ?hr ?_; (case ho=>rfl); (case hg=>rfl); (case hn=>rfl); (case hr=>first|(go_simp; done)|(go_simp; rfl)); intro w19 hw; have hg:wr.grownBy w19 (some go16):=(by rw [hw]; exact HP18.2); have hp_:Kd.R (Kd.int .i64) 3 w19 w.heap.size (fun k_=>(w.heap.size≤k_)) (.slice (some ⟨go16,0,none⟩) x5_2.length co17) y187:=(by rw [hw,Ny187.out]; exact HP18.1); clear HP18; have n0_:=Aside0.mk (hp_); have n1_:=Aside0.mk ((by rw [hw]; exact zag (HB.out) GB16.out:Below w.heap.size w w19)); clear HO_5; clear HB; have HO_5:=n0_; have HB:=n1_; clear n0_ n1_; clear hg hw hp_)); try go_wp2_with (first|((with_reducible refine za3 (t:=3) (p:=52) rfl ?_); (try (rw [zbL wr]; generalize hq_:World.drewN wr _=wr; have n0_:=Aside0.mk (Kd.R_at hq_ HO_5.out); have n1_:=Aside0.mk (zcw hq_ HB.out); clear hq_ HO_5 HB; have HO_5:=n0_; have HB:=n1_; clear n0_ n1_; (try (have HP18:=Kd.R_putg HO_5.out ((ji10):Int) (Int.tmod (wrap64 ((wrap64 (x7_2+(rd x5_2 (ji10))))+(wrap64 ((rd l0 x6_1)*(rd l1 x8_2))))) 10000))))); refine zaU (t:=3) (p:=52) (v:=?vo_w19) (w1:=(wr.setCell ⟨go16,((ji10):Int).toNat,none⟩ (.int .i64 (Int.tmod (wrap64 ((wrap64 (x7_2+(rd x5_2 (ji10))))+(wrap64 ((rd l0 x6_1)*(rd l1 x8_2))))) 10000)))) ?hg ?ho ?hn ?hr ?_; (case ho=>rfl); (case hg=>rfl); (case hn=>rfl); (case hr=>first|(go_simp; done)|(go_simp; rfl)); intro w19 hw; have hg:wr.grownBy w19 (some go16):=(by rw [hw]; exact HP18.2); have hp_:Kd.R (Kd.int .i64) 3 w19 w.heap.size (fun k_=>(w.heap.size≤k_)) (.slice (some ⟨go16,0,none⟩) x5_2.length co17) y187:=(by rw [hw,Ny187.out]; exact HP18.1); clear HP18; have n0_:=Aside0.mk (hp_); have n1_:=Aside0.mk ((by rw [hw]; exact zag (HB.out) GB16.out:Below w.heap.size w w19)); clear HO_5; clear HB; have HO_5:=n0_; have HB:=n1_; clear n0_ n1_; clear hg hw hp_)))
              go_roundg k2
              case measure=>have:=HK1.out; have:=HK2.out; omega
              case rel=>exact ⟨(y187),(wrap64 (Int.tdiv (wrap64 ((wrap64 (x7_2+(rd x5_2 (ji10))))+(wrap64 ((rd l0 x6_1)*(rd l1 x8_2))))) 10000)),(wrap64 (x8_2+1)),(by first|rfl|(simp; done)|(simp only [←hji10]<;>(first|rfl|simp))|(simp [*]; done)),(by first|rfl|(simp; done)|(simp [*]; done)),H',⟨by have:=HK1.out; have:=HK2.out; omega⟩,⟨by (first|((with_reducible repeat (first|apply Kd.R_alloc|apply Kd.R_drewN|apply Kd.R_drew)); exact HO_5.out)|(rw [Ny187.out]; exact (Kd.R_putg (Kd.R_drewN HO_5.out _) _ _).1))⟩,⟨by (first|((repeat (first|(with_reducible first|exact HB.out|apply zaa|apply zab|apply zae)|exact HB.out)); done)|exact zag (zab HB.out _) GB16.out)⟩⟩
             ·rw [if_neg c15] at H
              exact absurd H (by simp)
            ·rw [if_neg c14] at H
             exact absurd H (by simp)
           ·rw [if_neg c13] at H
            exact absurd H (by simp)
          ·rw [if_neg c12] at H
           exact absurd H (by simp)
         ·rw [if_neg c11] at H
          exact absurd H (by simp)
        ·rw [if_neg c9] at H
         have c9b0:decide (x8_2<(l1.length:Int))=false:=decide_eq_false c9
         clear c9
         have H':=Aside0.mk H
         clear H
         go_wp2
         repeat (go_quiet (fail); try go_wp2)
         go_loopg [7,9] k2 (fun kq v7 v9 w'=>∃ (x5_3:List Int) (x7_3:Int) (x9_3:Int),v7 = .int .i64 x7_3∧v9 = .int .i64 x9_3∧Aside0 (c1_times.l2 kq l0 l1 x5_3 x6_1 x7_3 x9_3=some r)∧Aside0 (kq≤k2)∧Aside0 (Kd.R (Kd.int .i64) 3 w' w.heap.size (fun k_=>(w.heap.size≤k_)) v179 x5_3)∧Aside0 (Below w.heap.size w w'))
         case atStart=>exact ⟨(x5_2),(x7_2),(wrap64 (x6_1+(l1.length:Int))),(by first|rfl|(simp; done)|(simp [*]; done)),(by first|rfl|(simp; done)|(simp [*]; done)),H',⟨Nat.le_refl _⟩,⟨by (with_reducible repeat (first|apply Kd.R_alloc|apply Kd.R_drewN|apply Kd.R_drew)); exact HO_5.out⟩,⟨by repeat (first|(with_reducible first|exact HB.out|apply zaa|apply zab|apply zae)|exact HB.out)⟩⟩
         case round =>
          clear H'
          try clear c1
          try clear p1
          try clear q1
          try clear hx1
          try clear c2
          try clear p2
          try clear c4
          try clear c4b0
          try clear c4b1
          try clear c5
          try clear c5b0
          try clear c5b1
          try clear p6
          try clear c8
          try clear c8b0
          try clear c9
          try clear c9b0
          try clear c11
          try clear c11b0
          try clear c12
          try clear c12b0
          try clear c13
          try clear c13b0
          try clear c14
          try clear c14b0
          try clear c15
          try clear c15b0
          try clear p16
          try clear q16
          try clear hx16
          try clear hf16
          try clear p18
          try clear q18
          try clear hx18
          try clear hx16_0
          try clear hx184_0
          try clear hx185_0
          try clear hx186_0
          try clear p16
          try clear p184
          try clear p185
          try clear p186
          try clear p2
          try clear p6
          try clear q16
          try clear q184
          try clear q185
          try clear q186
          obtain ⟨x5_3,x7_3,x9_3,rfl,rfl,HA,HK3,HO_5,HB⟩:=hrel
          cases gk with
          | zero=>exact absurd HA.out (by simp [c1_times.l2])
          | succ k3 =>
           have H:=HA.out
           clear HA
           simp only [c1_times.l2] at H
           by_cases c20:x7_3>0
           ·rw [if_pos c20] at H
            have c20b0:decide (0<x7_3)=true:=decide_eq_true c20
            clear c20
            by_cases c21:0≤x9_3
            ·rw [if_pos c21] at H
             have c21b0:decide (0≤x9_3)=true:=decide_eq_true c21
             clear c21
             by_cases c22:x9_3<(x5_3.length:Int)
             ·rw [if_pos c22] at H
              have c22b0:decide (x9_3<(x5_3.length:Int))=true:=decide_eq_true c22
              clear c22
              obtain ⟨y189,hy189⟩:∃ y_:List Int,y_=(x5_3.set (x9_3:Int).toNat (Int.tmod (wrap64 (x7_3+(rd x5_3 x9_3))) 10000)):=⟨_,rfl⟩
              replace H:(c1_times.l2 k3 l0 l1 y189 x6_1 (wrap64 (Int.tdiv (wrap64 (x7_3+(rd x5_3 x9_3))) 10000)) (wrap64 (x9_3+1)))=some r:=by first|(rw [hy189]; with_reducible exact H)|(have H2_:=(Option.bind_some _ _).symm.trans H; rw [hy189]; with_reducible exact H2_)|(have H2_:=(Option.bind_some _ _).symm.trans H; with_reducible exact H2_)|with_reducible exact H|(rw [hy189]; exact H)|exact H
              have Ny189:=Aside0.mk hy189
              clear hy189
              have H':=Aside0.mk H
              clear H
              obtain ⟨Ao24,co24,eo24⟩:=Kd.R_slice HO_5.out
              subst eo24
              have p188:0≤(x9_3:Int):=of_decide_eq_true (by first|(with_reducible assumption)|assumption)
              have q188:x9_3<(x5_3.length:Int):=of_decide_eq_true (by first|(with_reducible assumption)|assumption)
              obtain ⟨ad188,e188,hx188_0⟩:=Kd.at_int (Kd.R_reads' HO_5.out).2.2 x9_3 p188 q188
              cases e188
              replace p188:=eq_true p188
              replace q188:=eq_true q188
              have p23:0≤(x9_3:Int):=of_decide_eq_true (by first|(with_reducible assumption)|assumption)
              have q23:(x9_3:Int)<((x5_3.length:Int):Int):=of_decide_eq_true (by first|(with_reducible assumption)|assumption)
              obtain ⟨go23,co23,eo23,gb23,gl23,cl23,HG23⟩:=Kd.R_form HO_5.out (by omega)
              (first|cases eo23|(injection eo23 with ea_ en_ ec_; (first|subst ea_|(injection ea_ with ea_; subst ea_)); subst ec_; clear en_))
              have GB23:=Aside0.mk gb23
              have GG23:=Aside0.mk HG23
              clear gb23 gl23 HG23
              (first|simp only [zbe] at hx188_0|skip)
              obtain ⟨hx23_0,hf23_0⟩:=Kd.R_celln 0 HO_5.out (x9_3:Int) p23 q23
              replace p23:=eq_true p23
              replace q23:=eq_true q23
              have HP25:=Kd.R_putg HO_5.out (x9_3:Int) (Int.tmod (wrap64 (x7_3+(rd x5_3 x9_3))) 10000)
              go_wp2_with (first|((with_reducible refine za3 (t:=3) (p:=73) rfl ?_); (try (rw [zbL wr]; generalize hq_:World.drewN wr _=wr; have n0_:=Aside0.mk (Kd.R_at hq_ HO_5.out); have n1_:=Aside0.mk (zcw hq_ HB.out); clear hq_ HO_5 HB; have HO_5:=n0_; have HB:=n1_; clear n0_ n1_; (try (have HP25:=Kd.R_putg HO_5.out (x9_3:Int) (Int.tmod (wrap64 (x7_3+(rd x5_3 x9_3))) 10000))))); refine zaU (t:=3) (p:=73) (v:=?vo_w26) (w1:=(wr.setCell ⟨go23,(x9_3:Int).toNat,none⟩ (.int .i64 (Int.tmod (wrap64 (x7_3+(rd x5_3 x9_3))) 10000)))) ?hg ?ho ?hn ?hr ?_; (case ho=>rfl); (case hg=>rfl); (case hn=>rfl); (case hr=>first|(go_simp; done)|(go_simp; rfl)); intro w26 hw; have hg:wr.grownBy w26 (some go23):=(by rw [hw]; exact HP25.2); have hp_:Kd.R (Kd.int .i64) 3 w26 w.heap.size (fun k_=>(w.heap.size≤k_)) (.slice (some ⟨go23,0,none⟩) x5_3.length co24) y189:=(by rw [hw,Ny189.out]; exact HP25.1); clear HP25; have n0_:=Aside0.mk (hp_); have n1_:=Aside0.mk ((by rw [hw]; exact zag (HB.out) GB23.out:Below w.heap.size w w26)); clear HO_5; clear HB; have HO_5:=n0_; have HB:=n1_; clear n0_ n1_; clear hg hw hp_))
              repeat (go_quiet (first|((with_reducible refine za3 (t:=3) (p:=73) rfl ?_); (try (rw [zbL wr]; generalize hq_:World.drewN wr _=wr; have n0_:=Aside0.mk (Kd.R_at hq_ HO_5.out); have n1_:=Aside0.mk (zcw hq_ HB.out); clear hq_ HO_5 HB; have HO_5:=n0_; have HB:=n1_; clear n0_ n1_; (try (have HP25:=Kd.R_putg HO_5.out (x9_3:Int) (Int.tmod (wrap64 (x7_3+(rd x5_3 x9_3))) 10000))))); refine zaU (t:=3) (p:=73) (v:=?vo_w26) (w1:=(wr.setCell ⟨go23,(x9_3:Int).toNat,none⟩ (.int .i64 (Int.tmod (wrap64 (x7_3+(rd x5_3 x9_3))) 10000)))) ?hg ?ho ?hn ?hr ?_; (case ho=>rfl); (case hg=>rfl); (case hn=>rfl); (case hr=>first|(go_simp; done)|(go_simp; rfl)); intro w26 hw; have hg:wr.grownBy w26 (some go23):=(by rw [hw]; exact HP25.2); have hp_:Kd.R (Kd.int .i64) 3 w26 w.heap.size (fun k_=>(w.heap.size≤k_)) (.slice (some ⟨go23,0,none⟩) x5_3.length co24) y189:=(by rw [hw,Ny189.out]; exact HP25.1); clear HP25; have n0_:=Aside0.mk (hp_); have n1_:=Aside0.mk ((by rw [hw]; exact zag (HB.out) GB23.out:Below w.heap.size w w26)); clear HO_5; clear HB; have HO_5:=n0_; have HB:=n1_; clear n0_ n1_; clear hg hw hp_)); try go_wp2_with (first|((with_reducible refine za3 (t:=3) (p:=73) rfl ?_); (try (rw [zbL wr]; generalize hq_:World.drewN wr _=wr; have n0_:=Aside0.mk (Kd.R_at hq_ HO_5.out); have n1_:=Aside0.mk (zcw hq_ HB.out); clear hq_ HO_5 HB; have HO_5:=n0_; have HB:=n1_; clear n0_ n1_; (try (have HP25:=Kd.R_putg HO_5.out (x9_3:Int) (Int.tmod (wrap64 (x7_3+(rd x5_3 x9_3))) 10000))))); refine zaU (t:=3) (p:=73) (v:=?vo_w26) (w1:=(wr.setCell ⟨go23,(x9_3:Int).toNat,none⟩ (.int .i64 (Int.tmod (wrap64 (x7_3+(rd x5_3 x9_3))) 10000)))) ?hg ?ho ?hn ?hr ?_; (case ho=>rfl); (case hg=>rfl); (case hn=>rfl); (case hr=>first|(go_simp; done)|(go_simp; rfl)); intro w26 hw; have hg:wr.grownBy w26 (some go23):=(by rw [hw]; exact HP25.2); have hp_:Kd.R (Kd.int .i64) 3 w26 w.heap.size (fun k_=>(w.heap.size≤k_)) (.slice (some ⟨go23,0,none⟩) x5_3.length co24) y189:=(by rw [hw,Ny189.out]; exact HP25.1); clear HP25; have n0_:=Aside0.mk (hp_); have n1_:=Aside0.mk ((by rw [hw]; exact zag (HB.out) GB23.out:Below w.heap.size w w26)); clear HO_5; clear HB; have HO_5:=n0_; have HB:=n1_; clear n0_ n1_; clear hg hw hp_)))
              go_roundg k3
              case measure=>have:=HK1.out; have:=HK2.out; have:=HK3.out; omega
              case rel=>exact ⟨(y189),(wrap64 (Int.tdiv (wrap64 (x7_3+(rd x5_3 x9_3))) 10000)),(wrap64 (x9_3+1)),(by first|rfl|(simp; done)|(simp [*]; done)),(by first|rfl|(simp; done)|(simp [*]; done)),H',⟨by have:=HK1.out; have:=HK2.out; have:=HK3.out; omega⟩,⟨by (with_reducible repeat (first|apply Kd.R_alloc|apply Kd.R_drewN|apply Kd.R_drew)); exact HO_5.out⟩,⟨by repeat (first|(with_reducible first|exact HB.out|apply zaa|apply zab|apply zae)|exact HB.out)⟩⟩
             ·rw [if_neg c22] at H
              exact absurd H (by simp)
            ·rw [if_neg c21] at H
             exact absurd H (by simp)
           ·rw [if_neg c20] at H
            have c20b0:decide (0<x7_3)=false:=decide_eq_false c20
            clear c20
            have H':=Aside0.mk H
            clear H
            go_wp2
            repeat (go_quiet (fail); try go_wp2)
            go_roundg k3
            case measure=>have:=HK1.out; have:=HK2.out; have:=HK3.out; omega
            case rel=>exact ⟨(x5_3),(wrap64 (x6_1+1)),(by first|rfl|(simp; done)|(simp [*]; done)),H',⟨by have:=HK1.out; have:=HK2.out; have:=HK3.out; omega⟩,⟨by (with_reducible repeat (first|apply Kd.R_alloc|apply Kd.R_drewN|apply Kd.R_drew)); exact HO_5.out⟩,⟨by repeat (first|(with_reducible first|exact HB.out|apply zaa|apply zab|apply zae)|exact HB.out)⟩⟩
     ·rw [if_neg c8] at H
      have c8b0:decide (x6_1<(l0.length:Int))=false:=decide_eq_false c8
      clear c8
      replace H:=Option.bind_eq_some_iff.mp H
      obtain ⟨t181,A270,H⟩:=H
      replace H:(some t181)=some r:=H
      have A27:=Aside0.mk A270
      clear A270
      obtain rfl:=Option.some.inj H
      obtain ⟨Ao28,co28,eo28⟩:=Kd.R_slice HO_5.out
      subst eo28
      go_wp2_with (first|(go_at_call 219; (with_reducible refine (c1_trim.calls k1 (fun k_=>some k_=(.slice Ao28 x5_1.length co28:Value).ownBlock) _ _ x5_1 t181 _ ?side1 A27.out).mono ?_); (case side1=>exact Kd.R_V (Kd.R_tight rfl (HO_5.out))); rintro e w29 ⟨v182,rfl,ho0,hb⟩; have n0_:=Aside0.mk (Kd.R_below (by (with_reducible repeat (first|apply Kd.R_alloc|apply Kd.R_drewN|apply Kd.R_drew)); exact HO_5.out) hb); have n1_:=Aside0.mk (Kd.V_lower (Kd.V_mono (ok':=fun k_=>(w.heap.size≤k_)) ho0 (fun k_ hk_=>Or.elim hk_ (fun hs_=>((HO_5.out).1 k_ hs_.symm)) (fun hn_=>(Nat.le_trans (zaq (by repeat (first|(with_reducible first|exact HB.out|apply zaa|apply zab|apply zae)|exact HB.out))) hn_)))) (zaq (by repeat (first|(with_reducible first|exact HB.out|apply zaa|apply zab|apply zae)|exact HB.out)))); have n2_:=Aside0.mk (zar (by repeat (first|(with_reducible first|exact HB.out|apply zaa|apply zab|apply zae)|exact HB.out)) hb); clear HO_5; clear HB; have HO_5:=n0_; have HO183:=n1_; have HB:=n2_; clear n0_ n1_ n2_; (try clear hb); (try clear hb2); (try clear hk); (try clear hi); (try clear ho0)))
      repeat (go_quiet (first|(go_at_call 219; (with_reducible refine (c1_trim.calls k1 (fun k_=>some k_=(.slice Ao28 x5_1.length co28:Value).ownBlock) _ _ x5_1 t181 _ ?side1 A27.out).mono ?_); (case side1=>exact Kd.R_V (Kd.R_tight rfl (HO_5.out))); rintro e w29 ⟨v182,rfl,ho0,hb⟩; have n0_:=Aside0.mk (Kd.R_below (by (with_reducible repeat (first|apply Kd.R_alloc|apply Kd.R_drewN|apply Kd.R_drew)); exact HO_5.out) hb); have n1_:=Aside0.mk (Kd.V_lower (Kd.V_mono (ok':=fun k_=>(w.heap.size≤k_)) ho0 (fun k_ hk_=>Or.elim hk_ (fun hs_=>((HO_5.out).1 k_ hs_.symm)) (fun hn_=>(Nat.le_trans (zaq (by repeat (first|(with_reducible first|exact HB.out|apply zaa|apply zab|apply zae)|exact HB.out))) hn_)))) (zaq (by repeat (first|(with_reducible first|exact HB.out|apply zaa|apply zab|apply zae)|exact HB.out)))); have n2_:=Aside0.mk (zar (by repeat (first|(with_reducible first|exact HB.out|apply zaa|apply zab|apply zae)|exact HB.out)) hb); clear HO_5; clear HB; have HO_5:=n0_; have HO183:=n1_; have HB:=n2_; clear n0_ n1_ n2_; (try clear hb); (try clear hb2); (try clear hk); (try clear hi); (try clear ho0))); try go_wp2_with (first|(go_at_call 219; (with_reducible refine (c1_trim.calls k1 (fun k_=>some k_=(.slice Ao28 x5_1.length co28:Value).ownBlock) _ _ x5_1 t181 _ ?side1 A27.out).mono ?_); (case side1=>exact Kd.R_V (Kd.R_tight rfl (HO_5.out))); rintro e w29 ⟨v182,rfl,ho0,hb⟩; have n0_:=Aside0.mk (Kd.R_below (by (with_reducible repeat (first|apply Kd.R_alloc|apply Kd.R_drewN|apply Kd.R_drew)); exact HO_5.out) hb); have n1_:=Aside0.mk (Kd.V_lower (Kd.V_mono (ok':=fun k_=>(w.heap.size≤k_)) ho0 (fun k_ hk_=>Or.elim hk_ (fun hs_=>((HO_5.out).1 k_ hs_.symm)) (fun hn_=>(Nat.le_trans (zaq (by repeat (first|(with_reducible first|exact HB.out|apply zaa|apply zab|apply zae)|exact HB.out))) hn_)))) (zaq (by repeat (first|(with_reducible first|exact HB.out|apply zaa|apply zab|apply zae)|exact HB.out)))); have n2_:=Aside0.mk (zar (by repeat (first|(with_reducible first|exact HB.out|apply zaa|apply zab|apply zae)|exact HB.out)) hb); clear HO_5; clear HB; have HO_5:=n0_; have HO183:=n1_; have HB:=n2_; clear n0_ n1_ n2_; (try clear hb); (try clear hb2); (try clear hk); (try clear hi); (try clear ho0))))
      go_ret
      exact ⟨_,by first|rfl|(simp [zak,zaj]<;>rfl)|(simp only [←hji3]; first|rfl|(simp [zak,zaj]<;>rfl))|(simp [*,zak,zaj]<;>rfl),by (with_reducible repeat (first|apply Kd.V_alloc|apply Kd.V_drewN|apply Kd.V_drew)); exact HO183.out,by repeat (first|(with_reducible first|exact HB.out|apply zaa|apply zab|apply zae)|exact HB.out)⟩
  ·rw [if_neg c5] at H
   exact absurd H (by simp)
 ·rw [if_neg c4] at H
  exact absurd H (by simp)
def c1_Times.f (k:Nat) (a0:ByteArray) (a1:ByteArray):Option (ByteArray):=(c1_limbs.f k a0).bind fun t271=>((c1_limbs.f k a1).bind fun t274=>((c1_times.f k t271 t274).bind fun t277=>((c1_text.f t277).bind fun t280=>(some t280))))
end Go.Proofs.ZP
end
section
namespace Go.Proofs.ZP
open Go.RowKit Go.Proofs.ZW.Wa
theorem lv_take_succ (xs:List Int) {i:Nat} (h:i<xs.length):lv (xs.take (i+1))=lv (xs.take i)+10000^i*rd xs (i:Int):=by
 rw [List.take_succ_eq_append_getElem h,zcp,List.length_take,Nat.min_eq_left (by omega),rd_lt h]
 simp [lv]
theorem zca (i:Nat):(0:Int)<10000^i:=Int.pow_pos (by decide)
theorem pow4_lt {i j:Nat} (h:(10000:Int)^i<10000^j):i<j:=by
 apply Classical.byContradiction
 intro hn
 have h1:(10000:Nat)^j≤10000^i:=Nat.pow_le_pow_right (by decide) (by omega)
 have h2:((10000^j:Nat):Int)≤((10000^i:Nat):Int):=Int.ofNat_le.2 h1
 rw [Int.natCast_pow,Int.natCast_pow] at h2
 have h3:((10000:Nat):Int)^i<((10000:Nat):Int)^j:=h
 omega
theorem prod_lt {xs ys:List Int} (hx:Ld xs) (hy:Ld ys) (i:Nat) (hi:i≤xs.length):lv (xs.take i)*lv ys<10000^(xs.length+ys.length):=by
 have h1:=lv_lt (hx.take i)
 have h2:=lv_lt hy
 have h3:=zaY (hx.take i)
 have h4:=zaY hy
 rw [List.length_take,Nat.min_eq_left hi] at h1
 have h5:(10000:Int)^i≤10000^xs.length:=by
  have h6:(10000:Nat)^i≤10000^xs.length:=Nat.pow_le_pow_right (by decide) hi
  have h7:=Int.ofNat_le.2 h6
  rw [Int.natCast_pow,Int.natCast_pow] at h7
  exact h7
 rw [Int.pow_add]
 have h8:=zca xs.length
 have h9:=zca ys.length
 calc lv (xs.take i)*lv ys≤lv (xs.take i)*10000^ys.length:=Int.mul_le_mul_of_nonneg_left (Int.le_of_lt h2) h3
  _<10000^xs.length*10000^ys.length:=Int.mul_lt_mul_of_pos_right (by omega) h9
theorem times_alg (L P s q o x y D:Int):L+P*(s-o)+P*10000*q+P*10000*(x*D)=L+P*(s+10000*q-o-x*y)+P*(x*(y+10000*D)):=by grind
theorem l1_step (k:Nat) (xs ys out:List Int) (i j:Nat) (c:Int) (h1:j<ys.length) (h2:i+j<out.length) (h3:i<xs.length) (hs:out.length≤1099511627776) (hc:0≤c∧c<10000) (ho:0≤rd out ((i+j:Nat):Int)∧rd out ((i+j:Nat):Int)<10000) (hM:0≤rd xs (i:Int)*rd ys (j:Int)∧rd xs (i:Int)*rd ys (j:Int)≤9999*9999) :
  c1_times.l1 (k+1) xs ys out (i:Int) c (j:Int)=c1_times.l1 k xs ys (out.set (i+j) ((c+rd out ((i+j:Nat):Int)+rd xs (i:Int)*rd ys (j:Int))%10000)) (i:Int) ((c+rd out ((i+j:Nat):Int)+rd xs (i:Int)*rd ys (j:Int))/10000) ((j+1:Nat):Int):=by
 have eij:wrap64 ((i:Int)+(j:Int))=((i+j:Nat):Int):=by rw [w64' (by omega) (by omega)]; rfl
 have g1:(j:Int)<(ys.length:Int):=Int.ofNat_lt.2 h1
 have g2:(0:Int)≤((i+j:Nat):Int):=Int.natCast_nonneg _
 have g3:((i+j:Nat):Int)<(out.length:Int):=Int.ofNat_lt.2 h2
 have g4:(0:Int)≤(i:Int):=Int.natCast_nonneg _
 have g5:(i:Int)<(xs.length:Int):=Int.ofNat_lt.2 h3
 have g6:(0:Int)≤(j:Int):=Int.natCast_nonneg _
 have e7:wrap64 ((j:Int)+1)=((j+1:Nat):Int):=by rw [w64' (by omega) (by omega)]; rfl
 rw [c1_times.l1,if_pos g1,eij,if_pos g2,if_pos g3,if_pos g4,if_pos g5,if_pos g6,Int.toNat_natCast,e7]
 clear g1 g2 g3 g4 g5 g6 e7 eij h1 h2 h3 hs
 generalize rd xs (i:Int)*rd ys (j:Int)=M at *
 generalize rd out ((i+j:Nat):Int)=o at *
 have e1:wrap64 M=M:=w64' (by omega) (by omega)
 have e2:wrap64 (c+o)=c+o:=w64' (by omega) (by omega)
 have e3:wrap64 (c+o+M)=c+o+M:=w64' (by omega) (by omega)
 have e4:(c+o+M).tmod 10000=(c+o+M)%10000:=Int.tmod_eq_emod_of_nonneg (by omega)
 have e5:(c+o+M).tdiv 10000=(c+o+M)/10000:=Int.tdiv_eq_ediv_of_nonneg (by omega)
 have e6:wrap64 ((c+o+M)/10000)=(c+o+M)/10000:=w64' (by omega) (by omega)
 rw [e1,e2,e3,e4,e5,e6]
section
variable (xs ys:List Int) (hx:Ld xs) (hy:Ld ys) (hl:xs.length+ys.length≤1099511627776)
include hx hy hl
theorem times_l2 (i:Nat) (hi:i<xs.length) (r:List Int) (hr:∀ out,Ld out→out.length=xs.length+ys.length→lv out=lv (xs.take (i+1))*lv ys→Ev (fun k=>c1_times.l0 k xs ys out ((i+1:Nat):Int)) r) :
  ∀ (d kk:Nat) (out:List Int) (c:Int),Ld out→out.length=xs.length+ys.length→0≤c→c<10000→kk≤xs.length+ys.length→kk+d=xs.length+ys.length+1→lv out+10000^kk*c=lv (xs.take (i+1))*lv ys →
   Ev (fun k=>c1_times.l2 k xs ys out (i:Int) c (kk:Int)) r:=by
 intro d
 induction d with
 | zero=>intro kk out c _ _ _ _ h1 h2; omega
 | succ d ih =>
  intro kk out c hod hol hc0 hc1 hkk hd hv
  by_cases hc:0<c
  ·have hlt:=prod_lt hx hy (i+1) (by omega)
   have ho:=zaY hod
   have hp:=zca kk
   have h1:(10000:Int)^kk*1≤10000^kk*c:=Int.mul_le_mul_of_nonneg_left (by omega) (by omega)
   have hk:kk<xs.length+ys.length:=pow4_lt (by omega)
   have hrd:=hod.rd (kk:Int)
   have hs:=ih (kk+1) (out.set kk ((c+rd out (kk:Int))%10000)) ((c+rd out (kk:Int))/10000) (hod.set _ (by omega) (by omega)) (by rw [List.length_set]; exact hol) (by omega) (by omega) (by omega) (by omega) (by
    rw [lv_set _ (by omega),←hv,Int.pow_succ]
    have e:=Int.emod_add_mul_ediv (c+rd out (kk:Int)) 10000
    generalize (c+rd out (kk:Int))%10000=s at *
    generalize (c+rd out (kk:Int))/10000=q at *
    have e2:c=s+10000*q-rd out (kk:Int):=by omega
    rw [e2]; grind)
   refine Ev.step (fun k => ?_) hs
   simp only [c1_times.l2]
   rw [if_pos (by omega),if_pos (by omega),if_pos (by omega),w64' (x:=c+rd out (kk:Int)) (by omega) (by omega),Int.tmod_eq_emod_of_nonneg (by omega),Int.tdiv_eq_ediv_of_nonneg (by omega),w64' (by omega) (by omega),w64' (by omega) (by omega),Int.toNat_natCast]
   rfl
  ·have:c=0:=by omega
   subst this
   rw [Int.mul_zero,Int.add_zero] at hv
   refine Ev.step (fun k => ?_) (hr out hod hol hv)
   simp only [c1_times.l2]
   rw [if_neg (by omega),w64' (by omega) (by omega)]
   rfl
theorem times_l1 (i:Nat) (hi:i<xs.length) (r:List Int) (hr:∀ out,Ld out→out.length=xs.length+ys.length→lv out=lv (xs.take (i+1))*lv ys→Ev (fun k=>c1_times.l0 k xs ys out ((i+1:Nat):Int)) r) :
  ∀ (d j:Nat) (out:List Int) (c:Int),Ld out→out.length=xs.length+ys.length→0≤c→c<10000→j+d=ys.length→lv out+10000^(i+j)*c+10000^(i+j)*(rd xs (i:Int)*lv (ys.drop j))=lv (xs.take (i+1))*lv ys →
   Ev (fun k=>c1_times.l1 k xs ys out (i:Int) c (j:Int)) r:=by
 intro d
 induction d with
 | zero =>
  intro j out c hod hol hc0 hc1 hd hv
  have hj:j=ys.length:=by omega
  subst hj
  rw [List.drop_length,show lv []=0 from rfl,Int.mul_zero,Int.mul_zero,Int.add_zero] at hv
  refine Ev.step (fun k => ?_) (times_l2 xs ys hx hy hl i hi r hr (xs.length+ys.length+1-(i+ys.length)) (i+ys.length) out c hod hol hc0 hc1 (by omega) (by omega) hv)
  simp only [c1_times.l1]
  rw [if_neg (by omega),w64' (by omega) (by omega)]
  rfl
 | succ d ih =>
  intro j out c hod hol hc0 hc1 hd hv
  have hj:j<ys.length:=by omega
  have hrd:=hod.rd ((i+j:Nat):Int)
  have hxi:=hx.rd (i:Int)
  have hyj:=hy.rd (j:Int)
  have hm0:0≤rd xs (i:Int)*rd ys (j:Int):=Int.mul_nonneg hxi.1 hyj.1
  have hm1:rd xs (i:Int)*rd ys (j:Int)≤9999*9999:=by
   calc rd xs (i:Int)*rd ys (j:Int)≤rd xs (i:Int)*9999:=Int.mul_le_mul_of_nonneg_left (by omega) hxi.1
    _≤9999*9999:=Int.mul_le_mul_of_nonneg_right (by omega) (by decide)
  have dy:=lv_drop ys j
  rw [show rz ys j=rd ys (j:Int) from if_pos hj] at dy
  have hs:=ih (j+1) (out.set (i+j) ((c+rd out ((i+j:Nat):Int)+rd xs (i:Int)*rd ys (j:Int))%10000)) ((c+rd out ((i+j:Nat):Int)+rd xs (i:Int)*rd ys (j:Int))/10000) (hod.set _ (by omega) (by omega)) (by rw [List.length_set]; exact hol) (by omega) (by omega) (by omega) (by
   rw [lv_set _ (by omega),←hv,show i+(j+1)=(i+j)+1 by omega,Int.pow_succ,dy]
   have e:=Int.emod_add_mul_ediv (c+rd out ((i+j:Nat):Int)+rd xs (i:Int)*rd ys (j:Int)) 10000
   generalize (c+rd out ((i+j:Nat):Int)+rd xs (i:Int)*rd ys (j:Int))%10000=s at *
   generalize (c+rd out ((i+j:Nat):Int)+rd xs (i:Int)*rd ys (j:Int))/10000=q at *
   generalize rd out ((i+j:Nat):Int)=o at *
   generalize rd xs (i:Int)=x at *
   generalize rd ys (j:Int)=y at *
   have e2:c=s+10000*q-o-x*y:=by omega
   rw [e2]; exact times_alg _ _ _ _ _ _ _ _)
  have eij:wrap64 ((i:Int)+(j:Int))=((i+j:Nat):Int):=by rw [w64' (by omega) (by omega)]; rfl
  refine Ev.step (fun k => ?_) hs
  exact l1_step k xs ys out i j c hj (by rw [hol]; exact Nat.add_lt_add hi hj) hi (by rw [hol]; exact hl) ⟨hc0,hc1⟩ hrd ⟨hm0,hm1⟩
theorem times_l0:∀ (d i:Nat) (out:List Int),Ld out→out.length=xs.length+ys.length→i+d=xs.length→lv out=lv (xs.take i)*lv ys →
  Ev (fun k=>c1_times.l0 k xs ys out (i:Int)) (lim (lv xs*lv ys).toNat):=by
 intro d
 induction d with
 | zero =>
  intro i out hod hol hd hv
  have hi:i=xs.length:=by omega
  subst hi
  rw [List.take_length] at hv
  have ht:=trim_ev out.length out rfl (by omega) hod
  rw [hv] at ht
  refine Ev.step (f:=fun k=>(c1_trim.f k out).bind fun t275=>(some t275)) (fun k => ?_) (Ev.bind ht (Ev.now _))
  simp only [c1_times.l0]
  rw [if_neg (by omega)]
 | succ d ih =>
  intro i out hod hol hd hv
  have hi:i<xs.length:=by omega
  refine Ev.step (fun k => ?_) (times_l1 xs ys hx hy hl i hi _ (fun out' h1 h2 h3=>ih (i+1) out' h1 h2 (by omega) h3) ys.length 0 out 0 hod hol (by decide) (by decide) (by omega) ?_)
  ·simp only [c1_times.l0]
   rw [if_pos (by omega)]
   rfl
  ·rw [hv,lv_take_succ xs hi,Nat.add_zero,List.drop_zero,Int.mul_zero,Int.add_zero]
   grind
theorem times_spec:Ev (fun k=>c1_times.f k xs ys) (lim (lv xs*lv ys).toNat):=by
 have h:=times_l0 xs ys hx hy hl xs.length 0 (List.replicate (xs.length+ys.length) 0) (Ld.zeros _) (by simp) (by omega) (by rw [lv_zeros,List.take_zero]; simp [lv])
 refine Ev.congr (fun k => ?_) h
 unfold c1_times.f
 have e:wrap64 ((xs.length:Int)+(ys.length:Int))=((xs.length+ys.length:Nat):Int):=by rw [w64' (by omega) (by omega)]; rfl
 rw [e,if_pos (by omega),Int.toNat_natCast,if_pos (by omega)]
 rfl
end
end Go.Proofs.ZP
end
section
namespace Go.Proofs.ZQ
open Go.RowKit Go.Proofs.ZW.Wa Go.Proofs.ZP
def c1_Right.f (a0:ByteArray):Option Bool:=some (rightB a0)
def c1_Of.f (a0:Int):Option ByteArray:=if 0≤a0∧a0<18446744073709551616 then some (T a0.toNat) else none
def numT (s:ByteArray):Option Nat:=if ZP.Can s.data.toList∧s.size≤137438953472 then some (dval s.data.toList) else none
theorem numT_T {n:Nat} (h:(T n).size≤137438953472):numT (T n)=some n:=by unfold numT; rw [if_pos ⟨T_can n,h⟩,zc4]
theorem numT_some {s:ByteArray} {n:Nat} (h:numT s=some n):s=T n∧(T n).size≤137438953472:=by
 unfold numT at h
 split at h
 ·rename_i hc
  obtain rfl:=Option.some.inj h
  exact ⟨can_T hc.1,by rw [←can_T hc.1]; exact hc.2⟩
 ·cases h
theorem T_size_mono {a b:Nat} (h:a≤b):(T a).size≤(T b).size:=by rw [zc2,zc2]; exact zcf h
def c1_Plus.f (a0 a1:ByteArray):Option ByteArray:=(numT a0).bind fun x=>(numT a1).bind fun y=>some (T (x+y))
def c1_Times.f (a0 a1:ByteArray):Option ByteArray:=(numT a0).bind fun x=>(numT a1).bind fun y=>some (T (x*y))
def cmpN (x y:Nat):Int:=if x<y then -1 else if y<x then 1 else 0
def c1_Compare.f (a0 a1:ByteArray):Option Int:=(numT a0).bind fun x=>(numT a1).bind fun y=>some (cmpN x y)
end Go.Proofs.ZQ
end
section
namespace Go.Proofs.ZP
open Go.RowKit Go.Proofs.ZW.Wa Go.Proofs.ZW.Wb Go.Proofs.ZW.Wc
attribute [local go_sem] zaH zaF zaW zaV zaA zaz zaG zaE
def c1_Power.l0:Nat→ByteArray→Int→ByteArray→Option (ByteArray)
 | 0,_,_,_=>none
 | k+1,x0,x1,x5=>if x1>0 then (if (Int.tmod x1 2)=1 then ((c1_Times.f k x5 x0).bind fun t610=>(if (wrap64 (Int.tdiv x1 2))>0 then ((c1_Times.f k x0 x0).bind fun t611=>(c1_Power.l0 k t611 (wrap64 (Int.tdiv x1 2)) t610)) else (c1_Power.l0 k x0 (wrap64 (Int.tdiv x1 2)) t610))) else (if (wrap64 (Int.tdiv x1 2))>0 then ((c1_Times.f k x0 x0).bind fun t612=>(c1_Power.l0 k t612 (wrap64 (Int.tdiv x1 2)) x5)) else (c1_Power.l0 k x0 (wrap64 (Int.tdiv x1 2)) x5))) else (some x5)
def c1_Power.f (k:Nat) (a0:ByteArray) (a1:Int):Option (ByteArray):=c1_Power.l0 k a0 a1 (⟨#[49]⟩:ByteArray)
end Go.Proofs.ZP
end
section
namespace Go.Proofs.ZQ
open Go.RowKit Go.Proofs.ZW.Wa Go.Proofs.ZP
def c1_Power.f (a0:ByteArray) (a1:Int):Option ByteArray:=(numT a0).bind fun x=>if 0≤a1∧a1≤1000000000∧4*(T x).size*a1.toNat+1≤137438953472 then some (T (x^a1.toNat)) else none
end Go.Proofs.ZQ
end
