/- Texts under the proof, joined by a program (prune.py): HString, HRat, HRatOps, HRatSet, P36, P37. -/
import Derived.Test.YtocfocjfdpegmaaGreatDoorCRatParses06
import Derived.Test.YtocfocjfdpegmaaGreatDoorCRatParses02
set_option linter.unusedVariables false
set_option linter.unusedSimpArgs false
set_option exponentiation.threshold 20001
set_option maxHeartbeats 8000000
set_option maxRecDepth 100000
section
namespace Go.Proofs.ZP
open Go.RowKit Go.Proofs.ZW.Wa
def wtext (x:Int):ByteArray:=⟨((if x<0 then [45] else [])++decl x.natAbs).toArray⟩
def bints (bs:List UInt8):List Int:=bs.map fun b=>(b.toNat:Int)
structure TSt (w wr:World) (N:Nat) (v:Value) (bs:List UInt8) (A:Option Addr) (c:Nat) (us:List Int):Prop where
 own:wr.ownsRow w.heap.size 5 1 v (bints bs).length (nums .u8 (bints bs))
 wu:WAt wr A c us
 du:Wd us
 tu:us.getLast? ≠ some 0
 lu:us.length≤34359738368
 below:Below w.heap.size w wr
 eq:rdig N=bs++rdig (val us).toNat
 len:bs.length≤1099511627776
def left9 (q r k:Nat):List UInt8:=if 0<q then pad k r++rdig q else rdig r
theorem left9_start (q r:Nat) (hr:r<1000000000):rdig (q*1000000000+r)=left9 q r 9:=by
 unfold left9
 split
 ·rename_i h; exact rdig_split 9 r q hr h
 ·have:q=0:=by omega
  subst this; rw [Nat.zero_mul,Nat.zero_add]
theorem left9_more (q r k:Nat) (h:0<q∨0<r):left9 q r (k+1)=UInt8.ofNat (48+r%10) :: left9 q (r/10) k:=by
 unfold left9
 split
 ·rfl
 ·exact zbI (by omega)
theorem left9_zero (q:Nat) (r:Nat) (hr:r=0):left9 q r 0=rdig q:=by
 subst hr
 unfold left9
 split
 ·rfl
 ·have:q=0:=by omega
  subst this; rfl
theorem left9_none (k:Nat):left9 0 0 k=rdig 0:=by unfold left9; rw [if_neg (by decide)]
structure USt (w wr:World) (N:Nat) (v:Value) (bs:List UInt8) (A:Option Addr) (c:Nat) (us:List Int) (r i:Nat):Prop where
 own:wr.ownsRow w.heap.size 5 1 v (bints bs).length (nums .u8 (bints bs))
 wu:WAt wr A c us
 du:Wd us
 tu:us.getLast? ≠ some 0
 lu:us.length≤34359738368
 below:Below w.heap.size w wr
 eq:rdig N=bs++left9 (val us).toNat r (9-i)
 rl:r<10^(9-i)
theorem USt.len {w wr:World} {N:Nat} {v:Value} {bs:List UInt8} {A:Option Addr} {c:Nat} {us:List Int} {r i:Nat} (h:USt w wr N v bs A c us r i) {n:Nat} (hN:N<2^n):bs.length≤n:=by
 have h1:N<10^n:=Nat.lt_of_lt_of_le hN (Nat.pow_le_pow_left (by decide) n)
 have h2:=rdig_length_le.2 h1
 rw [h.eq,List.length_append] at h2
 omega
theorem zbC {w w':World} {base e n:Nat} {v:Value} {xs:List Value} (h:w.ownsRow base e 1 v n xs) (hb:Below w.heap.size w w'):w'.ownsRow base e 1 v n xs:=
 World.ownsRow.kept (row:=none) h (World.grownBy.mk hb.os hb.tape hb.output hb.size (fun k hk _=>hb.block k hk)) (Classical.em _)
theorem infoU8:(Tryz.prog.info? 5).map (fun i=>(i.zero,i.size,i.bytes))=some (some (.int .u8 0),1,1):=by kernel_rfl
theorem digit_byte (r:Nat):(((UInt8.ofNat (48+r%10)).toNat:Nat):Int)=48+((r%10:Nat):Int):=by rw [zaZ _ (Nat.mod_lt _ (by decide))]; omega
theorem WAt.grown {w w':World} {A:Option Addr} {c base n:Nat} {e:TypeId} {v:Value} {ws:List Int} {xs:List Value} (h:WAt w A c ws) (ho:w.ownsRow base e 1 v n xs) (he:e≠144) (hg:w.grownBy w' v.ownBlock):WAt w' A c ws:=by
 rcases hv:v.ownBlock with _|g
 ·rw [hv] at hg
  exact h.below ⟨hg.os,hg.tape,hg.output,hg.size,fun k hk=>hg.block k hk (by simp)⟩
 ·rw [hv] at hg
  refine h.keepB (g:=g) ⟨hg.os,hg.tape,hg.output,hg.size,fun k hk hne=>hg.block k hk (fun e=>hne (by injection e))⟩ (fun ad ha e2 => ?_)
  obtain ⟨cs,h1⟩:=h.typ ad ha
  obtain ⟨cs2,h2⟩:=zcR ho g hv
  rw [e2,h2] at h1
  injection h1 with h1
  injection h1 with _ h1
  exact he h1
theorem bints_snoc (bs:List UInt8) (b:UInt8):bints (bs ++ [b])=bints bs ++ [(b.toNat:Int)]:=by simp [bints]
theorem USt.more {w wr w1:World} {N:Nat} {v v1:Value} {bs:List UInt8} {A:Option Addr} {c:Nat} {us:List Int} {r:Int} {i:Nat} (h:USt w wr N v bs A c us r.toNat i) (hr:0≤r∧r<1000000000) (hi:i<9) (hc:0<us.length∨0<r) (d:Int) (hd:d=48+r%10)
  (ho:w1.ownsRow w.heap.size 5 1 v1 ((bints bs) ++ [d]).length (nums .u8 ((bints bs) ++ [d]))) (hg:(wr.alloc (.cells #[.int .u8 d] 5)).grownBy w1 v.ownBlock) (hb:Below w.heap.size w w1) :
  Hid (USt w w1 N v1 (bs ++ [UInt8.ofNat (48+r.toNat%10)]) A c us (r.tdiv 10).toNat (i+1)):=by
 have e1:d=((UInt8.ofNat (48+r.toNat%10)).toNat:Int):=by
  rw [digit_byte,hd]; omega
 rw [e1,←bints_snoc] at ho
 refine ⟨ho,?_,h.du,h.tu,h.lu,hb,?_,?_⟩
 ·exact (h.wu.below (zaa (Below.refl _ _) _)).grown (h.own.alloc _) (by decide) hg
 ·rw [h.eq,show 9-i=(9-(i+1))+1 by omega,left9_more,List.append_assoc]
  ·rw [Int.tdiv_eq_ediv_of_nonneg hr.1,show (r/10).toNat=r.toNat/10 by omega]; rfl
  ·rcases hc with hc|hc
   ·refine Or.inl ?_
    have h1:=val_pos h.du h.tu (by intro e; rw [e] at hc; simp at hc)
    have h2:(0:Int)<4294967296^(us.length-1):=Int.pow_pos (by decide)
    omega
   ·exact Or.inr (by omega)
 ·have h1:=h.rl
  rw [show 9-i=(9-(i+1))+1 by omega,Nat.pow_succ] at h1
  rw [Int.tdiv_eq_ediv_of_nonneg hr.1]
  omega
theorem mod10 {r:Int} (hr:0≤r∧r<1000000000):(48+r.tmod 10)%256=48+r%10:=by
 rw [Int.tmod_eq_emod_of_nonneg hr.1]; omega
theorem div10 {r:Int} (hr:0≤r∧r<1000000000):r.tdiv 10%4294967296=r.tdiv 10∧0≤r.tdiv 10∧r.tdiv 10<1000000000:=by
 rw [Int.tdiv_eq_ediv_of_nonneg hr.1]; omega
theorem USt.done {w wr:World} {N:Nat} {v:Value} {bs:List UInt8} {A:Option Addr} {c:Nat} {us:List Int} {r:Int} {i:Nat} (h:USt w wr N v bs A c us r.toNat i) (hr:0≤r) (hi:i≤9) (hc:i=9∨(¬ 0<us.length∧¬ 0<r)) {n:Nat} (hN:N<2^n) (hn:n≤big):Hid (TSt w wr N v bs A c us):=by
 refine ⟨h.own,h.wu,h.du,h.tu,h.lu,h.below,?_,by have:=h.len hN; unfold big at hn; omega⟩
 rw [h.eq]
 rcases hc with hc|⟨h1,h2⟩
 ·subst hc
  have h1:=h.rl
  rw [left9_zero _ _ (by simpa using h1)]
 ·have hu:us = []:=List.length_eq_zero_iff.1 (by omega)
  subst hu
  rw [show r.toNat=0 by omega,show (val []).toNat=0 from rfl,left9_none]
theorem TSt.less {w w1 wr:World} {N:Nat} {v:Value} {bs:List UInt8} {A A2:Option Addr} {c c2:Nat} {us qs:List Int} {r:Int} (h:TSt w w1 N v bs A c us) (k:WAt wr A2 c2 qs) (dq:Wd qs) (hu:0<us.length) (hv:val us=1000000000*val qs+r) (hr:0≤r):Hid (vmeas (.slice A2 qs.length c2) wr<vmeas (.slice A us.length c) w1):=by
 show _<_
 rw [vmeas_eq k,vmeas_eq h.wu]
 have h1:=val_pos h.du h.tu (by intro e; rw [e] at hu; simp at hu)
 have h2:(0:Int)<4294967296^(us.length-1):=Int.pow_pos (by decide)
 have h3:=zap dq
 omega
theorem str_bints (bs:List UInt8):strOfNums (bints bs)=⟨bs.toArray⟩:=by
 unfold strOfNums bints
 rw [List.map_map]
 congr 2
 conv=>rhs; rw [←List.map_id bs]
 refine List.map_congr_left fun b _ => ?_
 simp
theorem zcY (bs:List UInt8):(bints bs).reverse=bints bs.reverse:=by simp [bints]
theorem TSt.text {w wr:World} {x:Int} {v:Value} {bs:List UInt8} {A:Option Addr} {c:Nat} {us:List Int} (h:TSt w wr x.natAbs v bs A c us) (hu:¬ 0<us.length) (hx:x≠0):bs.reverse=decl x.natAbs:=by
 have hu:us = []:=List.length_eq_zero_iff.1 (by omega)
 subst hu
 have h1:=h.eq
 rw [show (val []).toNat=0 from rfl,zb1,List.append_nil] at h1
 unfold decl
 rw [if_neg (by omega),h1]
theorem zck (b o:Nat) (x:Int) (w:World) (hx:IntAt w b o x) {n:Nat} (hs:Bd n x) (hn:n≤big) :
  Calls Tryz.prog 60 #[.pointer (some ⟨b,o,none⟩)] w fun e w'=>e = .returned (.string (wtext x))∧Below w.heap.size w w':=by
 obtain ⟨neg,A,c,ws,h1,h2,h3,h4⟩:=hx.out
 have hl1:ws.length≤34359738368:=h4.small hs hn
 by_cases h0:0<ws.length
 ·have hne : ((ws.length : Int) == 0) = false := beq_eq_false_iff_ne.2 (by omega)
  go_enter Tryz.func60,Tryz.ntmps60
  go_wp2
  go_loopw [3,4] (fun vb vw wr=>∃ (bs:List UInt8) (Aw:Option Addr) (cw:Nat) (us:List Int),vw = .slice Aw us.length cw∧Hid (TSt w wr x.natAbs vb bs Aw cw us)) (fun _ vw wr=>vmeas vw wr)
  case atStart=>exact ⟨[],A,c,ws,rfl,Lib.hid ⟨⟨rfl,Or.inl ⟨rfl,rfl⟩⟩,h3,h4.wd,h4.top,hl1,Below.refl _ _,by rw [h4.val_eq,Int.toNat_natCast]; rfl,by simp⟩⟩
  case round =>
   obtain ⟨bs,Aw,cw,us,rfl,HT⟩:=hrel
   by_cases hu:0<us.length
   ·go_wp2_with fail
    refine (small_calls Aw cw us 1000000000 _ HT.out.wu HT.out.du (by decide) (by decide) (by have:=HT.out.lu; omega)).mono ?_
    rintro e w1 ⟨A2,c2,zs,r,rfl,hw2,hz2,hzl,hs0,hs1,hv,hb2⟩
    have HV:=Lib.hid hv
    have HB2:=Lib.hid hb2
    have HZL:=Lib.hid hzl
    clear hv hb2 hzl
    go_wp2_with fail
    refine (zb0 A2 c2 zs _ hw2 hz2).mono ?_
    rintro e w3 ⟨n,rfl,hcut,rfl⟩
    have HU0:=Lib.hid (show USt w w1 x.natAbs u3 bs A2 c2 (zs.take n) r.toNat 0 from ⟨zbC HT.out.own HB2.out,hw2.take n hcut.le,hz2.take n,hcut.top,by rw [List.length_take]; have:=HT.out.lu; have:=HZL.out; omega,bthen HT.out.below HB2.out,by
     rw [HT.out.eq,←left9_start _ _ (by omega)]
     have h1:=HV.out
     have h2:=hcut.eq
     have h3:=zap hz2
     rw [show (val us).toNat=(val (zs.take n)).toNat*1000000000+r.toNat by rw [h2]; omega],by show r.toNat<10^9; omega⟩)
    have HVQ:=Lib.hid (show val us=1000000000*val (zs.take n)+r by rw [hcut.eq]; exact HV.out)
    have hln:n=(zs.take n).length:=by rw [List.length_take]; have:=hcut.le; omega
    have HLN:=Lib.hid hln
    have HS1:=Lib.hid (And.intro hs0 hs1)
    clear hln HV HB2 HZL hw2 hz2 hcut hs0 hs1
    generalize hzn:zs.take n=qs at *
    clear hzn
    rw [HLN.out]
    clear HLN
    go_wp2
    go_loopw [3,6,7] (fun vb vr vi wr'=>∃ (bs':List UInt8) (i:Nat) (R':Int),i≤9∧Hid (0≤R'∧R'<1000000000)∧vr = .int .u32 R'∧vi = .int .i64 i∧Hid (USt w wr' x.natAbs vb bs' A2 c2 qs R'.toNat i)) (fun _ _ vi _=>9-(intOf vi).toNat)
    case atStart=>exact ⟨bs,0,r,by omega,HS1,rfl,by go_num,HU0⟩
    case round =>
     obtain ⟨bs',i,R',hi9,hR9,rfl,rfl,HU⟩:=hrel
     obtain ⟨A8,c8,rfl,hr8⟩:=zbB HU.out.own
     clear hr8
     by_cases hi:i<9
     ·have hiI:(i:Int)<9:=by omega
      by_cases hq:0<qs.length
      ·have hqI:(0:Int)<(qs.length:Int):=by omega
       have hrow:=HU.out.own.alloc (.cells #[.int .u8 ((48+R'.tmod 10)%256)] 5)
       have HRW:=Lib.hid hrow
       have hlit:=zcn wr wr.heap.size 5 .u8 [(48+R'.tmod 10)%256] (Nat.le_refl _) (by simp)
       have HRL:=Lib.hid (zbJ hlit)
       have hbw:=bthen HU.out.below (zaa (Below.refl wr.heap.size wr) (.cells #[.int .u8 ((48+R'.tmod 10)%256)] 5))
       have HBW:=Lib.hid hbw
       have hsb:=hbw.size
       have hll:((bints bs').length+1)*1≤140737488355328:=by have:=HU.out.len hs; unfold big at hn; unfold bints; rw [List.length_map]; omega
       clear hrow hlit hbw
       go_wp2_with (at_builtin; refine zaN w.heap.size rfl _ _ 133 5 .u8 1 rfl Tryz.underlying133 infoU8 (by decide) (.slice A8 (bints bs').length c8) (bints bs') [(48+R'.tmod 10)%256] (some ⟨wr.heap.size,0,none⟩) 1 1 rfl rfl HRW.out HRL.out HBW.out hsb hll ?_; intro v1 w1 hown hb hg hat)
       have HU2:=HU.out.more hR9.out hi (Or.inl hq) _ (mod10 hR9.out) hown hg hb
       have HDV:=Lib.hid (div10 hR9.out)
       clear hown hg hat
       go_wp2
       go_roundw
       case rel=>exact ⟨_,i+1,R'.tdiv 10,by omega,HDV.out.2,congrArg (Value.int .u32) HDV.out.1,by go_num,HU2⟩
       case measure=>simp [intOf]; omega
      ·have hqI:¬ (0:Int)<(qs.length:Int):=by omega
       by_cases hR:0<R'
       ·skip
        have hrow:=HU.out.own.alloc (.cells #[.int .u8 (48+R'%10)] 5)
        have HRW:=Lib.hid hrow
        have hlit:=zcn wr wr.heap.size 5 .u8 [48+R'%10] (Nat.le_refl _) (by simp)
        have HRL:=Lib.hid (zbJ hlit)
        have hbw:=bthen HU.out.below (zaa (Below.refl wr.heap.size wr) (.cells #[.int .u8 (48+R'%10)] 5))
        have HBW:=Lib.hid hbw
        have hsb:=hbw.size
        have hll:((bints bs').length+1)*1≤140737488355328:=by have:=HU.out.len hs; unfold big at hn; unfold bints; rw [List.length_map]; omega
        clear hrow hlit hbw
        go_wp2_with (at_builtin; refine zaN w.heap.size rfl _ _ 133 5 .u8 1 rfl Tryz.underlying133 infoU8 (by decide) (.slice A8 (bints bs').length c8) (bints bs') [48+R'%10] (some ⟨wr.heap.size,0,none⟩) 1 1 rfl rfl HRW.out HRL.out HBW.out hsb hll ?_; intro v1 w1 hown hb hg hat)
        have HU2:=HU.out.more hR9.out hi (Or.inr hR) _ rfl hown hg hb
        have HDV:=Lib.hid (div10 hR9.out)
        clear hown hg hat
        go_wp2
        go_roundw
        case rel=>exact ⟨_,i+1,R'.tdiv 10,by omega,HDV.out.2,congrArg (Value.int .u32) HDV.out.1,by go_num,HU2⟩
        case measure=>simp [intOf]; omega
       ·skip
        have HT2:=HU.out.done hR9.out.1 hi9 (Or.inr ⟨hq,hR⟩) hs hn
        have HM:=HT.out.less HU.out.wu HU.out.du hu HVQ.out HS1.out.1
        go_wp2
        go_roundw
        case rel=>exact ⟨bs',A2,c2,qs,rfl,HT2⟩
        case measure=>exact HM.out
     ·have hiI:¬ (i:Int)<9:=by omega
      skip
      have HT2:=HU.out.done hR9.out.1 hi9 (Or.inl (by omega)) hs hn
      have HM:=HT.out.less HU.out.wu HU.out.du hu HVQ.out HS1.out.1
      go_wp2
      go_roundw
      case rel=>exact ⟨bs',A2,c2,qs,rfl,HT2⟩
      case measure=>exact HM.out
   ·have h1':=bcell HT.out.below h1
    have hx0:x≠0:=fun e=>by have:=h4.nil_iff.2 e; subst this; simp at h0
    have HTX:=Lib.hid (HT.out.text hu hx0)
    have hng:=h4.neg_iff
    have HNG:=Lib.hid hng
    have HLB:=Lib.hid HT.out.len
    clear hng hx0
    cases neg
    ·obtain ⟨A9,c9,rfl,hr9⟩:=zbB HT.out.own
     clear hr9
     go_wp2_with fail
     refine (rev_calls (.slice A9 (bints bs).length c9) (bints bs) w _ HT.out.below HT.out.own (by have:=HT.out.len; unfold bints; rw [List.length_map]; omega)).mono ?_
     rintro e w5 ⟨rfl,ho5,hb5⟩
     have hcv:=own_string (P:=Tryz.prog) Tryz.underlying133 Tryz.underlying5 Tryz.underlying9 ho5
     go_wp2
     go_ret
     refine ⟨?_,hb5⟩
     have:strOfNums (bints bs).reverse=wtext x:=by
      rw [zcY,str_bints,HTX.out]
      unfold wtext
      rw [if_neg (fun h=>by have:=HNG.out.2 h; revert this; simp)]; rfl
     exact congrArg (fun v=>Ending.returned (.string v)) this
    ·obtain ⟨A9,c9,rfl,hr9⟩:=zbB HT.out.own
     clear hr9
     have hrow:=HT.out.own.alloc (.cells #[.int .u8 45] 5)
     have HRW:=Lib.hid hrow
     have hlit:=zcn wr wr.heap.size 5 .u8 [45] (Nat.le_refl _) (by simp)
     have HRL:=Lib.hid (zbJ hlit)
     have hbw:=bthen HT.out.below (zaa (Below.refl wr.heap.size wr) (.cells #[.int .u8 45] 5))
     have HBW:=Lib.hid hbw
     have hsb:=hbw.size
     have hll:((bints bs).length+1)*1≤140737488355328:=by have:=HLB.out; unfold bints; rw [List.length_map]; omega
     clear hrow hlit hbw
     go_wp2_with (at_builtin; refine zaN w.heap.size rfl _ _ 133 5 .u8 1 rfl Tryz.underlying133 infoU8 (by decide) (.slice A9 (bints bs).length c9) (bints bs) [45] (some ⟨wr.heap.size,0,none⟩) 1 1 rfl rfl HRW.out HRL.out HBW.out hsb hll ?_; intro v1 w1 hown hb hg hat)
     clear hg hat
     have hown2:w1.ownsRow w.heap.size 5 1 v1 (bints (bs ++ [45])).length (nums .u8 (bints (bs ++ [45]))):=by rw [bints_snoc]; exact hown
     have HO2:=Lib.hid hown2
     clear hown hown2
     obtain ⟨A7,c7,rfl,hr7⟩:=zbB HO2.out
     clear hr7
     go_wp2_with fail
     refine (rev_calls (.slice A7 (bints (bs ++ [45])).length c7) (bints (bs ++ [45])) w _ hb HO2.out (by have:=HLB.out; unfold bints; rw [List.length_map,List.length_append]; simp; omega)).mono ?_
     rintro e w5 ⟨rfl,ho5,hb5⟩
     have hcv:=own_string (P:=Tryz.prog) Tryz.underlying133 Tryz.underlying5 Tryz.underlying9 ho5
     go_wp2
     go_ret
     refine ⟨?_,hb5⟩
     have:strOfNums (bints (bs ++ [45])).reverse=wtext x:=by
      rw [zcY,str_bints,List.reverse_append,HTX.out]
      unfold wtext
      rw [if_pos (HNG.out.1 (by first|rfl|trivial))]; rfl
     exact congrArg (fun v=>Ending.returned (.string v)) this
 ·have hws:ws = []:=List.length_eq_zero_iff.1 (by omega)
  subst hws
  have hx0:x=0:=h4.nil_iff.1 rfl
  subst hx0
  clear h4 h0
  go_enter Tryz.func60,Tryz.ntmps60
  go_wp2
  go_ret
  exact ⟨rfl,Below.refl _ _⟩
theorem num_calls (g:Nat) (x:Rat) (w:World) (hx:RatAt w g x) {n:Nat} (hs:Bdr n x) (hn:n≤big) :
  Calls Tryz.prog 106 #[.pointer (some ⟨g,0,none⟩)] w fun e w'=>e = .returned (.pointer (some ⟨w.heap.size,0,none⟩))∧IntAt w' w.heap.size 0 x.num∧Below w.heap.size w w':=by
 have hnew:=IntAt.new w 70 (by decide)
 have hu105:=Tryz.underlying70
 have hba:=zaa (Below.refl w.heap.size w) (.cells #[.bool false,.slice none 0 0] 70)
 have hlt:=hx.lt
 go_enter Tryz.func106,Tryz.ntmps106
 go_wp2_with fail
 refine (zcl w.heap.size 0 g 0 x.num _ hnew.slot (hx.num.below hba) (Or.inl (by omega)) hs.1 hn).mono ?_
 rintro e w1 ⟨rfl,hx1,hu1⟩
 go_wp2
 go_ret
 exact ⟨rfl,hx1,hu1.new hba (Nat.le_refl _)⟩
theorem denom_calls (g:Nat) (x:Rat) (w:World) (hx:RatAt w g x) {n:Nat} (hs:Bdr n x) (hn:n≤big) :
  Calls Tryz.prog 108 #[.pointer (some ⟨g,0,none⟩)] w fun e w'=>e = .returned (.pointer (some ⟨w.heap.size,0,none⟩))∧IntAt w' w.heap.size 0 x.den∧Below w.heap.size w w':=by
 obtain ⟨d,hd,he⟩:=hx.den
 have hnew:=IntAt.new w 70 (by decide)
 have hu105:=Tryz.underlying70
 have hba:=zaa (Below.refl w.heap.size w) (.cells #[.bool false,.slice none 0 0] 70)
 have hlt:=hx.lt
 by_cases h0:d=0
 ·have hd1:x.den=1:=by
   rcases he with h|h
   ·exact absurd (h.symm.trans h0) (den_ne x)
   ·exact h.2
  rw [hd1]
  subst h0
  clear he hd1
  go_enter Tryz.func108,Tryz.ntmps108
  go_wp2_with fail
  refine (zaI g 2 0 _ hd).mono ?_
  rintro e w1 ⟨rfl,rfl⟩
  go_wp2_with fail
  refine (zbV 1 _ (by decide) (by decide)).mono ?_
  rintro e w1 ⟨rfl,hx1,hb1⟩
  go_wp2
  go_ret
  exact ⟨rfl,hx1,hb1⟩
 ·have hd1:d=x.den:=by
   rcases he with h|h
   ·exact h
   ·exact absurd h.1 h0
  subst hd1
  have hsg:((x.den:Int).sign == 0)=false:=beq_eq_false_iff_ne.2 (fun h=>h0 (Int.sign_eq_zero_iff_zero.1 h))
  clear he h0
  go_enter Tryz.func108,Tryz.ntmps108
  go_wp2_with fail
  refine (zaI g 2 x.den _ hd).mono ?_
  rintro e w1 ⟨rfl,rfl⟩
  go_wp2_with fail
  refine (zcl w.heap.size 0 g 2 x.den _ hnew.slot (hd.below hba) (Or.inl (by omega)) hs.2 hn).mono ?_
  rintro e w1 ⟨rfl,hx1,hu1⟩
  go_wp2
  go_ret
  exact ⟨rfl,hx1,hu1.new hba (Nat.le_refl _)⟩
theorem tdiv_abs (a g:Nat):((a:Int)).tdiv (g:Int)=((a/g:Nat):Int):=by
 rw [Int.tdiv_eq_ediv_of_nonneg (by omega),Int.natCast_ediv]
theorem zbc (g b1 o1 b2 o2:Nat) (x y:Int) (w:World) (hz:Slot w g 2) (hx:IntAt w b1 o1 x) (hy:IntAt w b2 o2 y) (hy0:y≠0) {n:Nat} (hs:Bd n x) (ht:Bd n y) (hn:n≤big) :
  Calls Tryz.prog 69 #[.pointer (some ⟨g,0,none⟩),.pointer (some ⟨b1,o1,none⟩),.pointer (some ⟨b2,o2,none⟩)] w fun e w'=>e = .returned (.pointer (some ⟨g,0,none⟩))∧RatAt w' g (Rat.divInt x y)∧Upd w w' g 0 4:=by
 have hu105:=Tryz.underlying70
 have hlt1:=hx.lt
 have hlt2:=hy.lt
 have hltg:=hz.lt
 have hparts:=div_parts x y hy0
 have HP:=Lib.hid hparts
 clear hparts
 have hnew0:=IntAt.new w 70 (by decide)
 have hba0:=zaa (Below.refl w.heap.size w) (.cells #[.bool false,.slice none 0 0] 70)
 go_enter Tryz.func69,Tryz.ntmps69
 go_wp2_with fail
 refine (zcs w.heap.size 0 b1 o1 x _ hnew0.slot (hx.below hba0) hs hn).mono ?_
 rintro e w1 ⟨rfl,hp1,hu1⟩
 have hb1:=hu1.new hba0 (Nat.le_refl _)
 have hnew1:=IntAt.new w1 70 (by decide)
 have hba1:=zaa (Below.refl w1.heap.size w1) (.cells #[.bool false,.slice none 0 0] 70)
 have hs1:=hb1.size
 have hP:=hp1.lt
 go_wp2_with fail
 refine (zcs w1.heap.size 0 b2 o2 y _ hnew1.slot ((hy.below hb1).below hba1) ht hn).mono ?_
 rintro e w2 ⟨rfl,hq2,hu2⟩
 have hB2:=hu2.new (bthen hb1 hba1) (by have:=hb1.size; omega)
 have hs2:=hu2.size
 have hp2:=(hp1.below hba1).upd hu2 (Or.inl (by omega))
 have hQ:=hq2.lt
 obtain ⟨na,Aa,ca,xs,h1,-,-,hN1⟩:=(hx.below hB2).out
 obtain ⟨nb,Ab,cb,ys,k1,-,-,hN2⟩:=(hy.below hB2).out
 have HNA:=Lib.hid hN1.neg_iff
 have HNB:=Lib.hid hN2.neg_iff
 have HPQ:=Lib.hid (And.intro hp2 hq2)
 have HB2:=Lib.hid hB2
 clear hN1 hN2 hnew0 hba0 hp1 hu1 hb1 hnew1 hba1 hq2 hu2 hp2 hB2 hs2
 have hPQ:w.heap.size<w1.heap.size:=hP
 generalize hPe:w.heap.size=P at *
 generalize hQe:w1.heap.size=Q at *
 go_wp2_with fail
 go_quiet (fail)
 generalize hqd:w2.drewN _=w3
 have hb3:Below w2.heap.size w2 w3:=by subst hqd; exact zai _ _
 clear hqd h1 k1
 have hp3:=HPQ.out.1.below hb3
 have hq3:=HPQ.out.2.below hb3
 have hB3:Below P w w3:=by have h:=bthen (w:=w) (by rw [hPe]; exact HB2.out) hb3; rwa [hPe] at h
 have hnew3:=IntAt.new w3 70 (by decide)
 have hba3:=zaa (Below.refl w3.heap.size w3) (.cells #[.bool false,.slice none 0 0] 70)
 have hltp:=hp3.lt
 have hltq:=hq3.lt
 clear HPQ HB2 hb3
 go_wp2_with fail
 refine (gcd_calls w3.heap.size 0 P 0 Q 0 _ _ (x.natAbs:Int) (y.natAbs:Int) _ hnew3.slot (hp3.below hba3) (hq3.below hba3) (by omega) (by omega) hs.abs ht.abs hn).mono ?_
 rintro e w4 ⟨rfl,hg4,hu4⟩
 have hg4':IntAt w4 w3.heap.size 0 ((Int.gcd x y:Nat):Int):=hg4
 have hp4:=(hp3.below hba3).upd hu4 (Or.inl (by omega))
 have hq4:=(hq3.below hba3).upd hu4 (Or.inl (by omega))
 have hb34:=hu4.new hba3 (Nat.le_refl _)
 have hB4:Below P w w4:=by have h:=bthen (w:=w) (by rw [hPe]; exact hB3) hb34; rwa [hPe] at h
 have hltg4:=hg4.lt
 clear hg4 hu4 hnew3 hba3 hp3 hq3 hb34 hB3
 generalize w3.heap.size=G at *
 go_wp2_with fail
 refine (zbV 1 _ (by decide) (by decide)).mono ?_
 rintro e w5 ⟨rfl,hn5,hb5⟩
 have hg5:=hg4'.below hb5
 have hp5:=hp4.below hb5
 have hq5:=hq4.below hb5
 have hB5:Below P w w5:=by have h:=bthen (w:=w) (by rw [hPe]; exact hB4) hb5; rwa [hPe] at h
 clear hg4' hp4 hq4 hb5 hB4
 generalize w4.heap.size=N1 at *
 go_wp2_with fail
 refine (zcX G 0 N1 0 ((Int.gcd x y:Nat):Int) 1 _ hg5 hn5).mono ?_
 rintro e w6 ⟨rfl,hb6⟩
 have hg6:=hg5.below hb6
 have hp6:=hp5.below hb6
 have hq6:=hq5.below hb6
 have hB6:Below P w w6:=by have h:=bthen (w:=w) (by rw [hPe]; exact hB5) hb6; rwa [hPe] at h
 clear hg5 hp5 hq5 hb6 hB5 hn5
 have hgpos:0<Int.gcd x y:=Int.gcd_pos_of_ne_zero_right _ hy0
 by_cases h1:1<Int.gcd x y
 ·have hsg:(((Int.gcd x y:Nat):Int)-1).sign=1:=Int.sign_eq_one_of_pos (by omega)
  rw [hsg]
  have hgb:Bd n ((Int.gcd x y:Nat):Int):=ht.le (by rw [Int.natAbs_natCast]; exact Nat.gcd_le_right _ (by omega))
  have hgn:((Int.gcd x y:Nat):Int)≠0:=by omega
  clear hsg
  go_wp2_with fail
  refine (quo_calls P 0 P 0 G 0 (x.natAbs:Int) ((Int.gcd x y:Nat):Int) _ hp6.slot hp6 hg6 hgn hs.abs hn).mono ?_
  rintro e w7 ⟨rfl,hp7,hu7⟩
  rw [tdiv_abs] at hp7
  have hg7:=hg6.upd hu7 (Or.inl (by omega))
  have hq7:=hq6.upd hu7 (Or.inl (by omega))
  go_wp2_with fail
  refine (quo_calls Q 0 Q 0 G 0 (y.natAbs:Int) ((Int.gcd x y:Nat):Int) _ hq7.slot hq7 hg7 hgn ht.abs hn).mono ?_
  rintro e w8 ⟨rfl,hqx,hu8⟩
  rw [tdiv_abs] at hqx
  have hpx:=hp7.upd hu8 (Or.inl (by omega))
  have hbx:Below P w w8:=by
   have h:=hu8.new (w0:=w) (hu7.new (w0:=w) (by rw [hPe]; exact hB6) (by omega)) (by omega)
   rwa [hPe] at h
  clear hgb hgn hp7 hu7 hg7 hq7 hu8 hg6 hp6 hq6 hB6
  have HA:=Lib.hid (And.intro hpx hqx)
  have HBX:=Lib.hid hbx
  clear hpx hqx hbx
  obtain ⟨np,Ap,cp,ps,p1,p2,p3,p4⟩:=HA.out.1.out
  have HPS:=Lib.hid p4.val_eq
  have hpwd:=p4.wd
  clear p1 p4
  go_wp2_with fail
  go_still_tail 8,(by kernel_rfl)
  change wpList _ _ _ _ _ w8.drew
  go_wp2_with fail
  have hzx:Slot w8 g 2:=hz.below (by rw [hPe]; exact HBX.out)
  refine (zax g 0 (!na == nb) Ap cp ps _ (hzx.lo.below (zac _)) (p3.below (zac _)) hpwd).mono ?_
  rintro e w9 ⟨rfl,hz9,hu9⟩
  rw [HPS.out] at hz9
  have hq9:=(HA.out.2.below (zac _)).upd hu9 (Or.inl (by omega))
  obtain ⟨nq,Aq,cq,qs,q1,q2,q3,q4⟩:=hq9.out
  have hzs:=(hzx.below (zac _)).upd hu9
  have hpt:=put_at hzs q3 rfl q4
  obtain ⟨⟨v0,hc0⟩,v1,hc1'⟩:=hzs.cells
  have hc1:w9.cell? ⟨g,3,none⟩=some v1:=hc1'
  have hf0:=hzs.frozen 2
  have hf1:=hzs.frozen 3
  have HPT:=Lib.hid hpt
  have HZ9:=Lib.hid hz9
  have HU9:=Lib.hid (hu9.lift (zac _))
  clear hpt q4 hq9 hz9 hu9 p2 p3 HPS hzx hzs hc1'
  go_wp2
  go_ret
  refine ⟨rfl,⟨?_,_,HPT.out.1,Or.inl (by rw [HP.out.2])⟩,?_⟩
  ·have h:=HZ9.out.upd HPT.out.2 (Or.inr (Or.inl (by omega)))
   have es:(!na == nb)=(decide (x<0) != decide (y<0)):=by
    have e1:na=decide (x<0):=by have:=HNA.out; cases na<;>simp at this ⊢<;>omega
    have e2:nb=decide (y<0):=by have:=HNB.out; cases nb<;>simp at this ⊢<;>omega
    rw [e1,e2]; rfl
   rw [HP.out.1,←es]
   exact h
  ·have hB:Below w.heap.size w w8:=by rw [hPe]; exact HBX.out
   exact ((HU9.out.mono (Nat.le_refl _) (by omega)).trans (HPT.out.2.mono (by omega) (by omega))).lift hB
 ·have hg1:Int.gcd x y=1:=by omega
  have hp0:=HP.out
  rw [hg1,Nat.div_one,Nat.div_one] at hp0
  have HPX:=Lib.hid hp0
  clear hp0
  have hpx:=hp6
  have hqx:=hq6
  have hbx:=hB6
  rw [hg1,show ((1:Nat):Int)-1=0 by omega,Int.sign_zero]
  clear hg1
  clear hp6 hq6 hB6 hg6
  have HA:=Lib.hid (And.intro hpx hqx)
  have HBX:=Lib.hid hbx
  clear hpx hqx hbx
  obtain ⟨np,Ap,cp,ps,p1,p2,p3,p4⟩:=HA.out.1.out
  have HPS:=Lib.hid p4.val_eq
  have hpwd:=p4.wd
  clear p1 p4
  go_wp2_with fail
  go_still_tail 8,(by kernel_rfl)
  change wpList _ _ _ _ _ w6.drew
  go_wp2_with fail
  have hzx:Slot w6 g 2:=hz.below (by rw [hPe]; exact HBX.out)
  refine (zax g 0 (!na == nb) Ap cp ps _ (hzx.lo.below (zac _)) (p3.below (zac _)) hpwd).mono ?_
  rintro e w9 ⟨rfl,hz9,hu9⟩
  rw [HPS.out] at hz9
  have hq9:=(HA.out.2.below (zac _)).upd hu9 (Or.inl (by omega))
  obtain ⟨nq,Aq,cq,qs,q1,q2,q3,q4⟩:=hq9.out
  have hzs:=(hzx.below (zac _)).upd hu9
  have hpt:=put_at hzs q3 rfl q4
  obtain ⟨⟨v0,hc0⟩,v1,hc1'⟩:=hzs.cells
  have hc1:w9.cell? ⟨g,3,none⟩=some v1:=hc1'
  have hf0:=hzs.frozen 2
  have hf1:=hzs.frozen 3
  have HPT:=Lib.hid hpt
  have HZ9:=Lib.hid hz9
  have HU9:=Lib.hid (hu9.lift (zac _))
  clear hpt q4 hq9 hz9 hu9 p2 p3 HPS hzx hzs hc1'
  go_wp2
  go_ret
  refine ⟨rfl,⟨?_,_,HPT.out.1,Or.inl (by rw [HPX.out.2])⟩,?_⟩
  ·have h:=HZ9.out.upd HPT.out.2 (Or.inr (Or.inl (by omega)))
   have es:(!na == nb)=(decide (x<0) != decide (y<0)):=by
    have e1:na=decide (x<0):=by have:=HNA.out; cases na<;>simp at this ⊢<;>omega
    have e2:nb=decide (y<0):=by have:=HNB.out; cases nb<;>simp at this ⊢<;>omega
    rw [e1,e2]; rfl
   rw [HPX.out.1,←es]
   exact h
  ·have hB:Below w.heap.size w w6:=by rw [hPe]; exact HBX.out
   exact ((HU9.out.mono (Nat.le_refl _) (by omega)).trans (HPT.out.2.mono (by omega) (by omega))).lift hB
theorem bd64 {n:Int} (h0 : -9223372036854775808≤n) (h1:n<9223372036854775808):Bd 64 n:=by
 unfold Bd; have:(2:Nat)^64=18446744073709551616:=by decide
 omega
theorem slot1 (w:World):Slot ((w.alloc (.cells #[.bool false,.slice none 0 0] 70)).alloc (.cells #[.bool false,.slice none 0 0] 70)) (w.heap.size+1) 0:=by
 have h:=(IntAt.new (w.alloc (.cells #[.bool false,.slice none 0 0] 70)) 70 (by decide)).slot
 rwa [World.size_alloc] at h
theorem slot2 (w:World):Slot (((w.alloc (.cells #[.bool false,.slice none 0 0] 70)).alloc (.cells #[.bool false,.slice none 0 0] 70)).alloc (.cells #[.bool false,.slice none 0 0] 70)) (w.heap.size+1+1) 0:=by
 have h:=(IntAt.new ((w.alloc (.cells #[.bool false,.slice none 0 0] 70)).alloc (.cells #[.bool false,.slice none 0 0] 70)) 70 (by decide)).slot
 rwa [World.size_alloc,World.size_alloc] at h
theorem za2 (n:Int) (w:World) (h0 : -9223372036854775808≤n) (h1:n<9223372036854775808) :
  Calls Tryz.prog 74 #[.int .i64 n] w fun e w'=>∃ D,e = .returned (.pointer (some ⟨D,0,none⟩))∧w.heap.size≤D∧IntAt w' D 0 n∧Below w.heap.size w w':=
 (zbV n w h0 h1).mono fun e w' ⟨he,hi,hb⟩=>⟨_,he,Nat.le_refl _,hi,hb⟩
theorem num_new (g:Nat) (x:Rat) (w:World) (hx:RatAt w g x) {n:Nat} (hs:Bdr n x) (hn:n≤big) :
  Calls Tryz.prog 106 #[.pointer (some ⟨g,0,none⟩)] w fun e w'=>∃ D,e = .returned (.pointer (some ⟨D,0,none⟩))∧w.heap.size≤D∧IntAt w' D 0 x.num∧Below w.heap.size w w':=
 (num_calls g x w hx hs hn).mono fun e w' ⟨he,hi,hb⟩=>⟨_,he,Nat.le_refl _,hi,hb⟩
theorem zbu (g:Nat) (x:Rat) (w:World) (hx:RatAt w g x) {n:Nat} (hs:Bdr n x) (hn:n≤big) :
  Calls Tryz.prog 108 #[.pointer (some ⟨g,0,none⟩)] w fun e w'=>∃ D,e = .returned (.pointer (some ⟨D,0,none⟩))∧w.heap.size≤D∧IntAt w' D 0 x.den∧Below w.heap.size w w':=
 (denom_calls g x w hx hs hn).mono fun e w' ⟨he,hi,hb⟩=>⟨_,he,Nat.le_refl _,hi,hb⟩
theorem newRat_calls (a b:Int) (w:World) (h0 : -9223372036854775808≤a) (h1:a<9223372036854775808) (k0 : -9223372036854775808≤b) (k1:b<9223372036854775808) (hb:b≠0) :
  Calls Tryz.prog 204 #[.int .i64 a,.int .i64 b] w fun e w'=>∃ D,e = .returned (.pointer (some ⟨D,0,none⟩))∧w.heap.size≤D∧RatAt w' D (Rat.divInt a b)∧Below w.heap.size w w':=by
 have hu105:=Tryz.underlying83
 have hnew:=RatAt.new w 83 (by decide)
 have hba:=zaa (Below.refl w.heap.size w) (.cells #[.bool false,.slice none 0 0,.bool false,.slice none 0 0] 83)
 have HA:=Lib.hid (bd64 h0 h1)
 have HB:=Lib.hid (bd64 k0 k1)
 go_enter Tryz.func204,Tryz.ntmps204
 go_wp2_with fail
 refine (za2 a _ h0 h1).mono ?_
 rintro e w1 ⟨D1,rfl,hD1,hx1,hb1⟩
 go_wp2_with fail
 refine (za2 b _ k0 k1).mono ?_
 rintro e w2 ⟨D2,rfl,hD2,hx2,hb2⟩
 have hx12:=hx1.below hb2
 have hb12:=bthen hba (bthen hb1 hb2)
 have hzz:=hnew.slot.below (bthen hb1 hb2)
 clear h0 h1 k0 k1
 go_wp2_with fail
 refine (zbc w.heap.size D1 0 D2 0 a b _ hzz hx12 hx2 hb HA.out HB.out (by unfold big; omega)).mono ?_
 rintro e w3 ⟨rfl,hz,hu⟩
 go_wp2
 go_ret
 exact ⟨_,rfl,Nat.le_refl _,hz,hu.new hb12 (Nat.le_refl _)⟩
theorem inv_calls (g g1:Nat) (x:Rat) (w:World) (hz:Slot w g 2) (hx:RatAt w g1 x) (hx0:x≠0) {n:Nat} (hs:Bdr n x) (hn:n≤big) :
  Calls Tryz.prog 104 #[.pointer (some ⟨g,0,none⟩),.pointer (some ⟨g1,0,none⟩)] w fun e w'=>e = .returned (.pointer (some ⟨g,0,none⟩))∧RatAt w' g x⁻¹∧Upd w w' g 0 4:=by
 have hu:=Tryz.underlying83
 rw [inv_divInt']
 go_enter Tryz.func104,Tryz.ntmps104
 go_wp2_with fail
 refine (denom_calls g1 x _ hx hs hn).mono ?_
 rintro e w1 ⟨rfl,hd1,hb1⟩
 have hx1:=hx.below hb1
 have hlt:=hd1.lt
 go_wp2_with fail
 refine (num_calls g1 x _ hx1 hs hn).mono ?_
 rintro e w2 ⟨rfl,hd2,hb2⟩
 have hd12:=hd1.below hb2
 have hb:=bthen hb1 hb2
 go_wp2_with fail
 refine (zbc g _ 0 _ 0 (x.den:Int) x.num _ (hz.below hb) hd12 hd2 (num_ne hx0) hs.2 hs.1 hn).mono ?_
 rintro e w3 ⟨rfl,hz3,hu3⟩
 go_wp2
 go_ret
 exact ⟨rfl,hz3,hu3.lift hb⟩
theorem zbv (g g1 g2:Nat) (x y:Rat) (w:World) (hz:Slot w g 2) (hx:RatAt w g1 x) (hy:RatAt w g2 y) {n m:Nat} (hs:Bdr n x) (ht:Bdr m y) (hn:n+m≤big) :
  Calls Tryz.prog 85 #[.pointer (some ⟨g,0,none⟩),.pointer (some ⟨g1,0,none⟩),.pointer (some ⟨g2,0,none⟩)] w fun e w'=>e = .returned (.pointer (some ⟨g,0,none⟩))∧RatAt w' g (x*y)∧Upd w w' g 0 4:=by
 have hu:=Tryz.underlying83
 have hu105:=Tryz.underlying70
 rw [mul_divInt]
 have hxl:=hx.lt
 have hyl:=hy.lt
 have hsn:n≤n+m:=by omega
 have htn:m≤n+m:=by omega
 have hN0:=(IntAt.new w 70 (by decide)).slot
 have hN1:Slot ((w.alloc (.cells #[.bool false,.slice none 0 0] 70)).alloc (.cells #[.bool false,.slice none 0 0] 70)) (w.heap.size+1) 0:=by
  have h:=(IntAt.new (w.alloc (.cells #[.bool false,.slice none 0 0] 70)) 70 (by decide)).slot
  rwa [World.size_alloc] at h
 have hN2:=hN0.below (zaa (Below.refl _ _) (.cells #[.bool false,.slice none 0 0] 70))
 go_enter Tryz.func85,Tryz.ntmps85
 go_wp2_with fail
 go_region_held3 (fun _=>True) (first|go_keep|trivial)
  ((first
   | (go_simp; go_at_call 159; (with_reducible change Calls _ _ #[.pointer (some ⟨_,0,none⟩),.pointer (some ⟨g1,0,none⟩),.pointer (some ⟨g2,0,none⟩)] _ _); refine (zbs _ 0 g1 0 g2 0 x.num y.num _ (by first|exact hN0.below (by repeat (with_reducible first|exact Below.refl _ _|apply zat|apply zab|apply zaa))|exact hN1.below (by repeat (with_reducible first|exact Below.refl _ _|apply zat|apply zab|apply zaa))) (hx.num.below (by repeat (with_reducible first|exact Below.refl _ _|apply zat|apply zab|apply zaa))) (hy.num.below (by repeat (with_reducible first|exact Below.refl _ _|apply zat|apply zab|apply zaa))) (hs.1.mono hsn) (ht.1.mono htn) hn).mono ?_; rintro e w1 ⟨rfl,hp1,hu1⟩; have hb1:Below w.heap.size w w1:=hu1.new (by repeat (with_reducible first|exact Below.refl _ _|apply zat|apply zab|apply zaa)) (by first|exact Nat.le_refl _|exact Nat.le_succ _); have hpl:=hp1.lt; have hsw:=hb1.size; (first|(have hq1:Slot w1 (w.heap.size+1) 0:=(by refine Slot.upd ?_ hu1; refine hN1.below ?_; (with_reducible first|exact zac _|exact Below.refl _ _)))|skip); (first|(have hq2:Slot w1 w.heap.size 0:=(by refine Slot.upd ?_ hu1; refine hN2.below ?_; (with_reducible first|exact zac _|exact Below.refl _ _)))|skip))
   | (go_simp; go_at_call 108; (with_reducible change Calls _ _ #[.pointer (some ⟨g1,0,none⟩)] _ _); refine (zbu g1 x _ (hx.below (by repeat (with_reducible first|exact Below.refl _ _|apply zat|apply zab|apply zaa|refine bthen ?_ hb1))) hs (by omega)).mono ?_; rintro e w2 ⟨D2,rfl,hD2,hd2,hb2⟩; have hD2':w.heap.size<D2:=(by (try simp only [World.size_alloc,World.size_drew] at hD2); omega); have hs12:w1.heap.size≤w2.heap.size:=(by have h:=hb2.size; (try simp only [World.size_alloc,World.size_drew] at h); omega))
   | (go_simp; go_at_call 108; (with_reducible change Calls _ _ #[.pointer (some ⟨g2,0,none⟩)] _ _); refine (zbu g2 y _ (hy.below (by repeat (with_reducible first|exact Below.refl _ _|apply zat|apply zab|apply zaa|refine bthen ?_ hb2|refine bthen ?_ hb1))) ht (by omega)).mono ?_; rintro e w3 ⟨D3,rfl,hD3,hd3,hb3⟩; have hs23:w2.heap.size≤w3.heap.size:=(by have h:=hb3.size; (try simp only [World.size_alloc,World.size_drew] at h); omega))
   | (go_simp; go_at_call 159; (with_reducible change Calls _ _ #[.pointer (some ⟨_,0,none⟩),.pointer (some ⟨D2,0,none⟩),.pointer (some ⟨D3,0,none⟩)] _ _); refine (zbs _ 0 D2 0 D3 0 (x.den:Int) (y.den:Int) _ (by first|exact hq1.below (by repeat (with_reducible first|exact Below.refl _ _|apply zat|apply zab|apply zaa|refine bthen ?_ hb3|refine bthen ?_ hb2))|exact hq2.below (by repeat (with_reducible first|exact Below.refl _ _|apply zat|apply zab|apply zaa|refine bthen ?_ hb3|refine bthen ?_ hb2))|exact (IntAt.new w1 70 (by decide)).slot.below (by repeat (with_reducible first|exact Below.refl _ _|apply zat|apply zab|apply zaa|refine bthen ?_ hb3|refine bthen ?_ hb2))|exact (IntAt.new w2 70 (by decide)).slot.below (by repeat (with_reducible first|exact Below.refl _ _|apply zat|apply zab|apply zaa|refine bthen ?_ hb3|refine bthen ?_ hb2))|exact (IntAt.new w3 70 (by decide)).slot.below (by repeat (with_reducible first|exact Below.refl _ _|apply zat|apply zab|apply zaa|refine bthen ?_ hb3|refine bthen ?_ hb2))) (hd2.below (by repeat (with_reducible first|exact Below.refl _ _|apply zat|apply zab|apply zaa|refine bthen ?_ hb3))) (hd3.below (by repeat (with_reducible first|exact Below.refl _ _|apply zat|apply zab|apply zaa))) (hs.2.mono hsn) (ht.2.mono htn) hn).mono ?_; rintro e w4 ⟨rfl,hq4,hu4⟩)
   | (go_simp; go_at_call 69; (with_reducible change Calls _ _ #[.pointer (some ⟨g,0,none⟩),.pointer (some ⟨_,0,none⟩),.pointer (some ⟨_,0,none⟩)] _ _); have hB4:Below w.heap.size w w4:=hu4.new (by repeat (with_reducible first|exact Below.refl _ _|apply zat|apply zab|apply zaa|refine bthen ?_ hb3|refine bthen ?_ hb2|refine bthen ?_ hb1)) (by omega); have hp4:=(hp1.below (by repeat (with_reducible first|exact Below.refl _ _|apply zat|apply zab|apply zaa|refine bthen ?_ hb3|refine bthen ?_ hb2))).upd hu4 (Or.inl (by omega)); refine (zbc g _ 0 _ 0 (x.num*y.num) ((x.den:Int)*y.den) _ (hz.below hB4) hp4 hq4 (zcv x y) (hs.1.mul ht.1) (hs.2.mul ht.2) hn).mono ?_; rintro e w5 ⟨rfl,hz5,hu5⟩)
   ))
 all_goals
  go_wp2
  go_ret
  exact ⟨rfl,hz5,hu5.lift hB4⟩
theorem rcmp_calls (g1 g2:Nat) (x y:Rat) (w:World) (hx:RatAt w g1 x) (hy:RatAt w g2 y) {n m:Nat} (hs:Bdr n x) (ht:Bdr m y) (hn:n+m≤big) :
  Calls Tryz.prog 77 #[.pointer (some ⟨g1,0,none⟩),.pointer (some ⟨g2,0,none⟩)] w fun e w'=>e = .returned (.int .i64 (x.num*y.den-y.num*x.den).sign)∧Below w.heap.size w w':=by
 have hu:=Tryz.underlying83
 have hu105:=Tryz.underlying70
 have hxl:=hx.lt
 have hyl:=hy.lt
 have hsn:n≤n+m:=by omega
 have htn:m≤n+m:=by omega
 go_enter Tryz.func77,Tryz.ntmps77
 go_wp2_with fail
 go_region_held3 (fun _=>True) (first|go_keep|trivial)
  ((first
   | (go_simp; go_at_call 108; (with_reducible change Calls _ _ #[.pointer (some ⟨g2,0,none⟩)] _ _); refine (zbu g2 y _ (by repeat (with_reducible first|exact hy|refine RatAt.below ?_ (zac _)|refine RatAt.below ?_ (zaa (Below.refl _ _) _))) ht (by omega)).mono ?_; rintro e w1 ⟨D1,rfl,hD1,hd1,hb1⟩; have hl1:=hd1.lt; have hs1:=hb1.size; (try simp only [World.size_alloc,World.size_drew] at hs1); (try simp only [World.size_alloc,World.size_drew] at hD1))
   | (go_simp; go_at_call 159; (with_reducible change Calls _ _ #[.pointer (some ⟨_,0,none⟩),.pointer (some ⟨g1,0,none⟩),.pointer (some ⟨D1,0,none⟩)] _ _); refine (zbs _ 0 g1 0 D1 0 x.num (y.den:Int) _ (by repeat (with_reducible first|exact (IntAt.new _ 70 (by decide)).slot|exact slot1 _|exact slot2 _|refine Slot.below ?_ (zac _)|refine Slot.below ?_ (zaa (Below.refl _ _) _)|refine Slot.below ?_ hb1)) ((by repeat (with_reducible first|exact hx|refine RatAt.below ?_ (zac _)|refine RatAt.below ?_ (zaa (Below.refl _ _) _)|refine RatAt.below ?_ hb1)):RatAt _ g1 x).num (by repeat (with_reducible first|exact hd1|refine IntAt.below ?_ (zac _)|refine IntAt.below ?_ (zaa (Below.refl _ _) _)|refine IntAt.below ?_ hb1)) (hs.1.mono hsn) (ht.2.mono htn) hn).mono ?_; rintro e w2 ⟨rfl,hp2,hu2⟩; have hl2:=hp2.lt; have hs2:=hu2.size; (try simp only [World.size_alloc,World.size_drew] at hs2))
   | (go_simp; go_at_call 108; (with_reducible change Calls _ _ #[.pointer (some ⟨g1,0,none⟩)] _ _); refine (zbu g1 x _ (by repeat (with_reducible first|exact hx|refine RatAt.below ?_ (zac _)|refine RatAt.below ?_ (zaa (Below.refl _ _) _)|refine RatAt.upd ?_ hu2 (by omega)|refine RatAt.below ?_ hb1)) hs (by omega)).mono ?_; rintro e w3 ⟨D3,rfl,hD3,hd3,hb3⟩; have hl3:=hd3.lt; have hs3:=hb3.size; (try simp only [World.size_alloc,World.size_drew] at hs3); (try simp only [World.size_alloc,World.size_drew] at hD3))
   | (go_simp; go_at_call 159; (with_reducible change Calls _ _ #[.pointer (some ⟨_,0,none⟩),.pointer (some ⟨g2,0,none⟩),.pointer (some ⟨D3,0,none⟩)] _ _); refine (zbs _ 0 g2 0 D3 0 y.num (x.den:Int) _ (by repeat (with_reducible first|exact (IntAt.new _ 70 (by decide)).slot|exact slot1 _|exact slot2 _|refine Slot.below ?_ (zac _)|refine Slot.below ?_ (zaa (Below.refl _ _) _)|refine Slot.upd ?_ hu2|refine Slot.below ?_ hb3|refine Slot.below ?_ hb1)) ((by repeat (with_reducible first|exact hy|refine RatAt.below ?_ (zac _)|refine RatAt.below ?_ (zaa (Below.refl _ _) _)|refine RatAt.upd ?_ hu2 (by omega)|refine RatAt.below ?_ hb3|refine RatAt.below ?_ hb1)):RatAt _ g2 y).num (by repeat (with_reducible first|exact hd3|refine IntAt.below ?_ (zac _)|refine IntAt.below ?_ (zaa (Below.refl _ _) _)|refine IntAt.upd ?_ hu2 (Or.inl (by omega))|refine IntAt.below ?_ hb3)) (ht.1.mono htn) (hs.2.mono hsn) hn).mono ?_; rintro e w4 ⟨rfl,hq4,hu4⟩; have hl4:=hq4.lt; have hs4:=hu4.size; (try simp only [World.size_alloc,World.size_drew] at hs4))
   | (go_simp; go_at_call 134; (with_reducible change Calls _ _ #[.pointer (some ⟨_,0,none⟩),.pointer (some ⟨_,0,none⟩)] _ _); refine (zcX _ 0 _ 0 (x.num*y.den) (y.num*x.den) _ (by repeat (with_reducible first|exact hp2|refine IntAt.below ?_ (zac _)|refine IntAt.below ?_ (zaa (Below.refl _ _) _)|refine IntAt.upd ?_ hu4 (Or.inl (by omega))|refine IntAt.below ?_ hb3)) hq4).mono ?_; rintro e w5 ⟨rfl,hb5⟩)
   ))
 all_goals
  have hB4:Below w.heap.size w w4:=(by repeat (with_reducible first|exact Below.refl _ _|apply zat|apply zab|apply zaa|refine bthen ?_ hb3|refine bthen ?_ hb1|refine Upd.new hu4 ?_ (by omega)|refine Upd.new hu2 ?_ (by omega)))
  go_wp2
  go_ret
  exact ⟨rfl,bthen hB4 hb5⟩
theorem radd_calls (g g1 g2:Nat) (x y:Rat) (w:World) (hz:Slot w g 2) (hx:RatAt w g1 x) (hy:RatAt w g2 y) {n m:Nat} (hs:Bdr n x) (ht:Bdr m y) (hn:n+m+1≤big) :
  Calls Tryz.prog 90 #[.pointer (some ⟨g,0,none⟩),.pointer (some ⟨g1,0,none⟩),.pointer (some ⟨g2,0,none⟩)] w fun e w'=>e = .returned (.pointer (some ⟨g,0,none⟩))∧RatAt w' g (x+y)∧Upd w w' g 0 4:=by
 have hu:=Tryz.underlying83
 have hu105:=Tryz.underlying70
 rw [add_divInt]
 have hxl:=hx.lt
 have hyl:=hy.lt
 have hsn:n≤n+m:=by omega
 have htn:m≤n+m:=by omega
 have hnm:n+m≤big:=by omega
 go_enter Tryz.func90,Tryz.ntmps90
 go_wp2_with fail
 refine (zbu g1 x _ hx hs (by omega)).mono ?_
 rintro e w1 ⟨P,rfl,hP,hp1,hb1⟩
 have hs1:=hb1.size
 have hlp:=hp1.lt
 go_wp2_with fail
 refine (zbu g2 y _ (hy.below hb1) ht (by omega)).mono ?_
 rintro e w2 ⟨Q,rfl,hQ,hq2,hb2⟩
 have hs2:=hb2.size
 have hlq:=hq2.lt
 go_wp2_with fail
 go_region_held3 (fun _=>True) (first|go_keep|trivial)
  ((first
   | (go_simp; go_at_call 159; (with_reducible change Calls _ _ #[.pointer (some ⟨_,0,none⟩),.pointer (some ⟨g1,0,none⟩),.pointer (some ⟨Q,0,none⟩)] _ _); refine (zbs _ 0 g1 0 Q 0 x.num (y.den:Int) _ (by repeat (with_reducible first|exact (IntAt.new _ 70 (by decide)).slot|exact slot1 _|exact slot2 _|refine Slot.below ?_ (zac _)|refine Slot.below ?_ (zaa (Below.refl _ _) _)|refine Slot.below ?_ hb1|refine Slot.below ?_ hb2)) ((by repeat (with_reducible first|exact hx|refine RatAt.below ?_ (zac _)|refine RatAt.below ?_ (zaa (Below.refl _ _) _)|refine RatAt.below ?_ hb1|refine RatAt.below ?_ hb2)):RatAt _ g1 x).num (by repeat (with_reducible first|exact hq2|refine IntAt.below ?_ (zac _)|refine IntAt.below ?_ (zaa (Below.refl _ _) _))) (hs.1.mono hsn) (ht.2.mono htn) hnm).mono ?_; rintro e w3 ⟨rfl,hm3,hu3⟩; have hl3:=hm3.lt; have hs3:=hu3.size; (try simp only [World.size_alloc,World.size_drew] at hs3))
   | (go_simp; go_at_call 159; (with_reducible change Calls _ _ #[.pointer (some ⟨_,0,none⟩),.pointer (some ⟨g2,0,none⟩),.pointer (some ⟨P,0,none⟩)] _ _); refine (zbs _ 0 g2 0 P 0 y.num (x.den:Int) _ (by repeat (with_reducible first|exact (IntAt.new _ 70 (by decide)).slot|exact slot1 _|exact slot2 _|refine Slot.below ?_ (zac _)|refine Slot.below ?_ (zaa (Below.refl _ _) _)|refine Slot.upd ?_ hu3|refine Slot.below ?_ hb1|refine Slot.below ?_ hb2)) ((by repeat (with_reducible first|exact hy|refine RatAt.below ?_ (zac _)|refine RatAt.below ?_ (zaa (Below.refl _ _) _)|refine RatAt.upd ?_ hu3 (by omega)|refine RatAt.below ?_ hb1|refine RatAt.below ?_ hb2)):RatAt _ g2 y).num (by repeat (with_reducible first|exact hp1|refine IntAt.below ?_ (zac _)|refine IntAt.below ?_ (zaa (Below.refl _ _) _)|refine IntAt.upd ?_ hu3 (Or.inl (by omega))|refine IntAt.below ?_ hb2)) (ht.1.mono htn) (hs.2.mono hsn) hnm).mono ?_; rintro e w4 ⟨rfl,hm4,hu4⟩; have hl4:=hm4.lt; have hs4:=hu4.size; (try simp only [World.size_alloc,World.size_drew] at hs4))
   | (go_simp; go_at_call 164; (with_reducible change Calls _ _ #[.pointer (some ⟨_,0,none⟩),.pointer (some ⟨_,0,none⟩),.pointer (some ⟨_,0,none⟩)] _ _); refine (add_calls _ 0 _ 0 _ 0 (x.num*y.den) (y.num*x.den) _ (by repeat (with_reducible first|exact (IntAt.new _ 70 (by decide)).slot|exact slot1 _|exact slot2 _|refine Slot.below ?_ (zac _)|refine Slot.below ?_ (zaa (Below.refl _ _) _)|refine Slot.upd ?_ hu4|refine Slot.upd ?_ hu3|refine Slot.below ?_ hb1|refine Slot.below ?_ hb2)) (by repeat (with_reducible first|exact hm3|refine IntAt.below ?_ (zac _)|refine IntAt.below ?_ (zaa (Below.refl _ _) _)|refine IntAt.upd ?_ hu4 (Or.inl (by omega)))) (by repeat (with_reducible first|exact hm4|refine IntAt.below ?_ (zac _)|refine IntAt.below ?_ (zaa (Below.refl _ _) _))) (hs.1.mul ht.2) (by have h:=ht.1.mul hs.2; rwa [Nat.add_comm m n] at h) hnm (Or.inl (by omega)) (Or.inl (by omega))).mono ?_; rintro e w5 ⟨rfl,hm5,hu5⟩; have hl5:=hm5.lt; have hs5:=hu5.size; (try simp only [World.size_alloc,World.size_drew] at hs5))
   ))
 all_goals
  have hp5:IntAt w5 P 0 (x.den:Int):=(by repeat (with_reducible first|exact hp1|refine IntAt.below ?_ (zac _)|refine IntAt.below ?_ (zaa (Below.refl _ _) _)|refine IntAt.upd ?_ hu5 (Or.inl (by omega))|refine IntAt.upd ?_ hu4 (Or.inl (by omega))|refine IntAt.upd ?_ hu3 (Or.inl (by omega))|refine IntAt.below ?_ hb2))
  have hq5:IntAt w5 Q 0 (y.den:Int):=(by repeat (with_reducible first|exact hq2|refine IntAt.below ?_ (zac _)|refine IntAt.below ?_ (zaa (Below.refl _ _) _)|refine IntAt.upd ?_ hu5 (Or.inl (by omega))|refine IntAt.upd ?_ hu4 (Or.inl (by omega))|refine IntAt.upd ?_ hu3 (Or.inl (by omega))))
  have hz5:Slot w5 g 2:=(by repeat (with_reducible first|exact hz|refine Slot.below ?_ (zac _)|refine Slot.below ?_ (zaa (Below.refl _ _) _)|refine Slot.upd ?_ hu5|refine Slot.upd ?_ hu4|refine Slot.upd ?_ hu3|refine Slot.below ?_ hb2|refine Slot.below ?_ hb1))
  have hB5:Below w.heap.size w w5:=(by repeat (with_reducible first|exact Below.refl _ _|apply zat|apply zab|apply zaa|refine bthen ?_ hb2|refine bthen ?_ hb1|refine Upd.new hu5 ?_ (by omega)|refine Upd.new hu4 ?_ (by omega)|refine Upd.new hu3 ?_ (by omega)))
  have hbn:=(hs.1.mul ht.2).add (by have h:=ht.1.mul hs.2; rwa [Nat.add_comm m n] at h)
  have hbd:=(hs.2.mul ht.2).mono (show n+m≤n+m+1 by omega)
  have HBN:=Lib.hid (And.intro hbn hbd)
  have HM5:=Lib.hid hm5
  clear hbn hbd hm3 hu3 hm4 hu4 hu5 hb1 hb2 hp1 hq2 hm5
  go_wp2_with fail
  refine (zbs P 0 P 0 Q 0 (x.den:Int) (y.den:Int) _ hp5.slot hp5 hq5 (hs.2.mono hsn) (ht.2.mono htn) hnm).mono ?_
  rintro e w6 ⟨rfl,hp6,hu6⟩
  have hn6:=HM5.out.upd hu6 (Or.inl (by omega))
  go_wp2_with fail
  refine (zbc g _ 0 P 0 (x.num*y.den+y.num*x.den) ((x.den:Int)*y.den) _ (hz5.upd hu6) hn6 hp6 (zcv x y) HBN.out.1 HBN.out.2 hn).mono ?_
  rintro e w7 ⟨rfl,hz7,hu7⟩
  have hB6:=hu6.new hB5 (by omega)
  go_wp2
  go_ret
  exact ⟨rfl,hz7,hu7.lift hB6⟩
theorem put_rat {w:World} {g c c' k k':Nat} {A A':Option Addr} {neg neg':Bool} {ws ws':List Int} {x:Rat} (hz:Slot w g 2) (h1:WAt w A c ws) (e1:ws.length=k) (n1:Norm neg ws x.num) (h2:WAt w A' c' ws') (e2:ws'.length=k') (n2:Norm neg' ws' (x.den:Int)) :
  RatAt ((((w.setCell ⟨g,0,none⟩ (.bool neg)).setCell ⟨g,1,none⟩ (.slice A k c)).setCell ⟨g,2,none⟩ (.bool neg')).setCell ⟨g,3,none⟩ (.slice A' k' c')) g x∧Upd w ((((w.setCell ⟨g,0,none⟩ (.bool neg)).setCell ⟨g,1,none⟩ (.slice A k c)).setCell ⟨g,2,none⟩ (.bool neg')).setCell ⟨g,3,none⟩ (.slice A' k' c')) g 0 4:=by
 obtain ⟨p1,u1⟩:=put_at hz.lo h1 e1 n1
 have hz1:Slot ((w.setCell ⟨g,0,none⟩ (.bool neg)).setCell ⟨g,0+1,none⟩ (.slice A k c)) g 2:=hz.upd u1
 obtain ⟨p2,u2⟩:=put_at hz1 (h2.upd u1) e2 n2
 exact ⟨⟨p1.upd u2 (Or.inr (Or.inl (by omega))),_,p2,Or.inl rfl⟩,(u1.mono (Nat.le_refl _) (by omega)).trans (u2.mono (by omega) (by omega))⟩
theorem cell_set_ne {w:World} {g o b j:Nat} {u v:Value} (h:w.cell? ⟨b,j,none⟩=some v) (hne:b≠g):(w.setCell ⟨g,o,none⟩ u).cell? ⟨b,j,none⟩=some v:=
 (World.cell?_of_block (Below.heap_setCell w ⟨g,o,none⟩ u b hne)).trans h
theorem zbM {w:World} {a:Addr} {v:Value} (h:w.cell? a=some v):w.drew.cell? a=some v:=h
theorem zaP (g b o:Nat) (x:Int) (w:World) (hz:Slot w g 2) (hx:IntAt w b o x) {n:Nat} (hs:Bd n x) (hn:n≤big) :
  Calls Tryz.prog 81 #[.pointer (some ⟨g,0,none⟩),.pointer (some ⟨b,o,none⟩)] w fun e w'=>e = .returned (.pointer (some ⟨g,0,none⟩))∧RatAt w' g (x:Rat)∧Upd w w' g 0 4:=by
 have hu:=Tryz.underlying83
 have hu105:=Tryz.underlying70
 go_enter Tryz.func81,Tryz.ntmps81
 have hlt:=hx.lt
 have hltg:=hz.lt
 have hnew:=(IntAt.new w 70 (by decide)).slot
 have hPg:w.heap.size≠g:=by omega
 have hba:=zaa (Below.refl w.heap.size w) (.cells #[.bool false,.slice none 0 0] 70)
 go_wp2_with fail
 go_region_with
  ((first
   | (go_simp; go_at_call 161; refine (zcl w.heap.size 0 b o x _ (by repeat (with_reducible first|exact hnew|refine Slot.below ?_ (zac _))) (by repeat (with_reducible first|exact hx|refine IntAt.below ?_ (zac _)|refine IntAt.below ?_ (zaa (Below.refl _ _) _))) (Or.inl (by omega)) hs hn).mono ?_; rintro e w1 ⟨rfl,hp1,hu1⟩; have hb1:Below w.heap.size w w1:=hu1.new (by repeat (with_reducible first|exact Below.refl _ _|apply zat|apply zaa)) (Nat.le_refl _); have hpl:=hp1.lt; obtain ⟨np,Ap,cp,ps,p1,p2,p3,p4⟩:=hp1.out; have p2':w1.cell? ⟨w.heap.size,1,none⟩=some (.slice Ap ps.length cp):=p2; clear p2)
   | (go_simp; go_at_call 74; refine (za2 1 _ (by decide) (by decide)).mono ?_; rintro e w2 ⟨Q,rfl,hQ,hq2,hb2⟩; have hQg:Q≠g:=(by have h:=hb1.size; (try simp only [World.size_drew] at hQ); omega); have hb12:Below w1.heap.size w1 w2:=(by first|exact hb2|exact bthen (zac _) hb2|exact bthen (zac _) (bthen (zac _) hb2)); have r1:=bcell hb12 p1; have r2:=bcell hb12 p2'; have hB2:=bthen hb1 hb12; have hz2:=hz.below hB2; obtain ⟨⟨v0,hc0⟩,v1,hc1⟩:=hz2.lo.cells; obtain ⟨⟨v2,hc2⟩,v3,hc3⟩:=hz2.cells; have hc1':w2.cell? ⟨g,1,none⟩=some v1:=hc1; have hc3':w2.cell? ⟨g,3,none⟩=some v3:=hc3; have hf0:=hz2.frozen 0; have hf1:=hz2.frozen 1; have hf2:=hz2.frozen 2; have hf3:=hz2.frozen 3; clear hc1 hc3; obtain ⟨nq,Aq,cq,qs,q1,q2,q3,q4⟩:=hq2.out; have q2':w2.cell? ⟨Q,1,none⟩=some (.slice Aq qs.length cq):=q2; clear q2)
   ))
 all_goals
  have hpt:=put_rat (x:=(x:Rat)) hz2 (p3.below hb12) rfl (show Norm np ps ((x:Rat).num) from p4) q3 rfl (show Norm nq qs (((x:Rat).den:Nat):Int) from q4)
  have HPT:=Lib.hid hpt
  clear hpt
  go_wp2
  go_ret
  exact ⟨rfl,HPT.out.1,HPT.out.2.lift hB2⟩
theorem rset_calls (g g1:Nat) (x:Rat) (w:World) (hz:Slot w g 2) (hx:RatAt w g1 x) {n:Nat} (hs:Bdr n x) (hn:n≤big) :
  Calls Tryz.prog 167 #[.pointer (some ⟨g,0,none⟩),.pointer (some ⟨g1,0,none⟩)] w fun e w'=>e = .returned (.pointer (some ⟨g,0,none⟩))∧RatAt w' g x∧Upd w w' g 0 4:=by
 have hu:=Tryz.underlying83
 have hu105:=Tryz.underlying70
 have hlt:=hx.lt
 go_enter Tryz.func167,Tryz.ntmps167
 go_wp2_with fail
 refine (num_new g1 x _ hx hs hn).mono ?_
 rintro e w1 ⟨P,rfl,hP,hp1,hb1⟩
 have hs1:=hb1.size
 have hlp:=hp1.lt
 go_wp2_with fail
 refine (zbu g1 x _ (hx.below hb1) hs hn).mono ?_
 rintro e w2 ⟨Q,rfl,hQ,hq2,hb2⟩
 have hs2:=hb2.size
 have hlq:=hq2.lt
 have hp2:=hp1.below hb2
 obtain ⟨np,Ap,cp,ps,p1,p2,p3,p4⟩:=hp2.out
 obtain ⟨nq,Aq,cq,qs,q1,q2,q3,q4⟩:=hq2.out
 have hz2:=hz.below (bthen hb1 hb2)
 have hpt:=put_rat hz2 p3 rfl p4 q3 rfl q4
 have HPT:=Lib.hid hpt
 obtain ⟨⟨v0,hc0⟩,v1,hc1⟩:=hz2.lo.cells
 obtain ⟨⟨v2,hc2⟩,v3,hc3⟩:=hz2.cells
 have hc1':w2.cell? ⟨g,1,none⟩=some v1:=hc1
 have hc3':w2.cell? ⟨g,3,none⟩=some v3:=hc3
 have hf0:=hz2.frozen 0
 have hf1:=hz2.frozen 1
 have hf2:=hz2.frozen 2
 have hf3:=hz2.frozen 3
 have HB:=Lib.hid (bthen hb1 hb2)
 clear hpt p3 p4 q3 q4 hc1 hc3 hz2 hp2 hq2 hp1
 have hltg:=hz.lt
 have hPg:P≠g:=by omega
 have hQg:Q≠g:=by omega
 have q1':w2.cell? ⟨Q,1,none⟩=some (.slice Aq qs.length cq):=q2
 have p1':w2.cell? ⟨P,1,none⟩=some (.slice Ap ps.length cp):=p2
 clear q2 p2
 go_wp2_with fail
 go_region_held3 (fun w'=>w'.cell? ⟨P,0,none⟩=some (.bool np)∧w'.cell? ⟨P,1,none⟩=some (.slice Ap ps.length cp)∧w'.cell? ⟨Q,0,none⟩=some (.bool nq)∧w'.cell? ⟨Q,1,none⟩=some (.slice Aq qs.length cq)) (first|exact ⟨p1,p1',q1,q1'⟩|(refine ⟨?_,?_,?_,?_⟩<;>(repeat (with_reducible first|assumption|refine zbM ?_|refine cell_set_ne ?_ hPg|refine cell_set_ne ?_ hQg))))
  ((first
   | fail))
 all_goals
  go_wp2
  go_ret
  exact ⟨rfl,HPT.out.1.below (zac _),(HPT.out.2.trans (Upd.of_below (zac _) _ _ _)).lift HB.out⟩
theorem set_neg {w:World} {g c:Nat} {A:Option Addr} {neg neg':Bool} {ws:List Int} {x y:Rat} (h:RatAt w g x) (h1:w.cell? ⟨g,0,none⟩=some (.bool neg)) (h2:w.cell? ⟨g,0+1,none⟩=some (.slice A ws.length c)) (h3:WAt w A c ws) (hn:Norm neg' ws y.num) (hd:y.den=x.den) :
  RatAt (w.setCell ⟨g,0,none⟩ (.bool neg')) g y∧Upd w (w.setCell ⟨g,0,none⟩ (.bool neg')) g 0 4:=by
 have hs:=h.slot
 obtain ⟨cs,t,hb,hsz,ht⟩:=h.slot.lo
 have u:=Upd.set w hb ht (Nat.le_refl 0) (show 0<1 by decide) (.bool neg')
 have hb2:=zav hb 0 (.bool neg')
 obtain ⟨d,hd1,hd2⟩:=h.den
 refine ⟨⟨⟨h.slot.lo.upd u,neg',A,c,ws,?_,?_,h3.upd u,hn⟩,d,hd1.upd u (Or.inr (Or.inr (by omega))),?_⟩,u.mono (Nat.le_refl _) (by omega)⟩
 ·rw [zaf hb2,Array.getElem?_setIfInBounds_self_of_lt (by omega)]
 ·rw [←h2,zaf hb2,zaf hb,Array.getElem?_setIfInBounds_ne (by omega)]
 ·rw [hd]; exact hd2
theorem rneg_calls (g g1:Nat) (x:Rat) (w:World) (hz:Slot w g 2) (hx:RatAt w g1 x) {n:Nat} (hs:Bdr n x) (hn:n≤big) :
  Calls Tryz.prog 102 #[.pointer (some ⟨g,0,none⟩),.pointer (some ⟨g1,0,none⟩)] w fun e w'=>e = .returned (.pointer (some ⟨g,0,none⟩))∧RatAt w' g (-x)∧Upd w w' g 0 4:=by
 have hu:=Tryz.underlying83
 have hu105:=Tryz.underlying70
 go_enter Tryz.func102,Tryz.ntmps102
 go_wp2_with fail
 refine (rset_calls g g1 x _ hz hx hs hn).mono ?_
 rintro e w1 ⟨rfl,hz1,hu1⟩
 obtain ⟨neg,A,c,ws,h1,h2,h3,h4⟩:=hz1.num.out
 have hf:=hz1.slot.frozen 0
 cases neg
 ·by_cases hx0:x.num=0
  ·have hn':Norm false ws ((-x).num):=by rw [Rat.neg_num,hx0]; rw [hx0] at h4; exact h4
   have HP:=Lib.hid (set_neg hz1 h1 h2 h3 hn' (Rat.neg_den x))
   have hsg:x.num.sign=0:=by rw [hx0]; rfl
   clear h4 hn' h2 hx0
   go_wp2_with fail
   refine (zaI g 0 x.num _ hz1.num).mono ?_
   rintro e w2 ⟨rfl,rfl⟩
   rw [hsg]
   clear hsg
   go_wp2
   go_ret
   exact ⟨rfl,HP.out.1,hu1.trans HP.out.2⟩
  ·have hn':Norm true ws ((-x).num):=⟨h4.wd,h4.top,fun e=>absurd (h4.nil_iff.1 e) hx0,by rw [Rat.neg_num]; have:=h4.eq; simp at this ⊢; omega⟩
   have HP:=Lib.hid (set_neg hz1 h1 h2 h3 hn' (Rat.neg_den x))
   have HSB:=Lib.hid (show (x.num.sign != 0)=true from bne_iff_ne.2 (fun h=>hx0 (Int.sign_eq_zero_iff_zero.1 h)))
   clear h4 hn' h2 hx0
   go_wp2_with fail
   refine (zaI g 0 x.num _ hz1.num).mono ?_
   rintro e w2 ⟨rfl,rfl⟩
   go_wp2
   go_ret
   refine ⟨rfl,?_⟩
   rw [HSB.out]
   exact ⟨HP.out.1,hu1.trans HP.out.2⟩
 ·have hn':Norm false ws ((-x).num):=⟨h4.wd,h4.top,fun _=>rfl,by rw [Rat.neg_num]; have:=h4.eq; simp at this ⊢; omega⟩
  have HP:=Lib.hid (set_neg hz1 h1 h2 h3 hn' (Rat.neg_den x))
  clear h4 hn' h2
  go_wp2
  go_ret
  exact ⟨rfl,HP.out.1,hu1.trans HP.out.2⟩
theorem rsub_calls (g g1 g2:Nat) (x y:Rat) (w:World) (hz:Slot w g 2) (hx:RatAt w g1 x) (hy:RatAt w g2 y) {n m:Nat} (hs:Bdr n x) (ht:Bdr m y) (hn:n+m+1≤big) :
  Calls Tryz.prog 93 #[.pointer (some ⟨g,0,none⟩),.pointer (some ⟨g1,0,none⟩),.pointer (some ⟨g2,0,none⟩)] w fun e w'=>e = .returned (.pointer (some ⟨g,0,none⟩))∧RatAt w' g (x-y)∧Upd w w' g 0 4:=by
 have hu:=Tryz.underlying83
 have hu105:=Tryz.underlying70
 have hnew:=RatAt.new w 83 (by decide)
 have hba:=zaa (Below.refl w.heap.size w) (.cells #[.bool false,.slice none 0 0,.bool false,.slice none 0 0] 83)
 rw [Rat.sub_eq_add_neg]
 go_enter Tryz.func93,Tryz.ntmps93
 go_wp2_with fail
 refine (rneg_calls w.heap.size g2 y _ hnew.slot (hy.below hba) ht (by omega)).mono ?_
 rintro e w1 ⟨rfl,hz1,hu1⟩
 have hb1:=hu1.new hba (Nat.le_refl _)
 go_wp2_with fail
 refine (radd_calls g g1 w.heap.size x (-y) _ (hz.below hb1) (hx.below hb1) hz1 hs ht.neg hn).mono ?_
 rintro e w2 ⟨rfl,hz2,hu2⟩
 go_wp2
 go_ret
 exact ⟨rfl,hz2,hu2.lift hb1⟩
end Go.Proofs.ZP
end
section
namespace Go.Proofs.ZP
open Go.RowKit Go.Proofs.ZW.Wa Go.Proofs.ZW.Wb Go.Proofs.ZW.Wc
attribute [local go_sem] zaH zaF zaW zaV zaA zaz zaG zaE
def c1_trim.l0:Nat→List Int→Option (List Int)
 | 0,_=>none
 | k+1,x0=>if (x0.length:Int)>0 then (if 0≤(wrap64 ((x0.length:Int)-1)) then (if (wrap64 ((x0.length:Int)-1))<(x0.length:Int) then (if (rd x0 (wrap64 ((x0.length:Int)-1)))=0 then (if (wrap64 ((x0.length:Int)-1))≤(x0.length:Int) then (c1_trim.l0 k (x0.take ((wrap64 ((x0.length:Int)-1)):Int).toNat)) else (none)) else (some x0)) else (none)) else (none)) else (some x0)
def c1_trim.f (k:Nat) (l0:List Int):Option (List Int):=c1_trim.l0 k l0
theorem c1_trim.calls (k : Nat) (P0_ : Nat → Prop) (A0 : Option Addr) (c0 : Nat) (l0 : List Int) (r : List Int) (w : World) (hs0 : Kd.V (Kd.int .i64) 3 w w.heap.size (fun k_ => P0_ k_) (.slice A0 l0.length c0) l0) (h : c1_trim.f k l0 = some r) :
  Calls Tryz.prog 219 #[.slice A0 l0.length c0] w fun e w'=>∃ v0_:Value,e = .returned (v0_)∧Kd.V (Kd.int .i64) 3 w' w.heap.size (fun k_=>(P0_ k_∨w.heap.size≤k_)) v0_ r∧Below w.heap.size w w':=by
 have HO0:=Aside0.mk (show Kd.V (Kd.int .i64) 3 w w.heap.size (fun k_=>(P0_ k_∨w.heap.size≤k_)) (.slice A0 l0.length c0) l0 from Kd.V_mono hs0 (fun k_ hk => .inl hk))
 have HB:=Aside0.mk (Below.refl w.heap.size w)
 have H:(c1_trim.l0 k l0)=some r:=h
 clear h
 have H':=Aside0.mk H
 clear H
 go_enter Tryz.func219,Tryz.ntmps219
 go_wp2
 go_loopg [0] k (fun kq v0 w'=>∃ (x0_1:List Int),Aside0 (c1_trim.l0 kq x0_1=some r)∧Aside0 (kq≤k)∧Aside0 (Kd.V (Kd.int .i64) 3 w' w.heap.size (fun k_=>(P0_ k_∨w.heap.size≤k_)) v0 x0_1)∧Aside0 (Below w.heap.size w w'))
 case atStart=>exact ⟨(l0),H',⟨Nat.le_refl _⟩,⟨by (with_reducible repeat (first|apply Kd.V_alloc|apply Kd.V_drewN|apply Kd.V_drew)); exact HO0.out⟩,⟨by repeat (first|(with_reducible first|exact HB.out|apply zaa|apply zab|apply zae)|exact HB.out)⟩⟩
 case round =>
  clear H'
  obtain ⟨x0_1,HA,HK1,HO_0,HB⟩:=hrel
  cases gk with
  | zero=>exact absurd HA.out (by simp [c1_trim.l0])
  | succ k1 =>
   have H:=HA.out
   clear HA
   simp only [c1_trim.l0] at H
   by_cases c2:(x0_1.length:Int)>0
   ·rw [if_pos c2] at H
    have c2b0:decide (0<(x0_1.length:Int))=true:=decide_eq_true c2
    have c2b1:decide (0<x0_1.length)=true:=decide_eq_true (by omega)
    clear c2
    obtain ⟨ji3,hji3⟩:∃ j_:Int,(wrap64 ((x0_1.length:Int)-1))=j_:=⟨_,rfl⟩
    replace H:(if 0≤(ji3) then (if (ji3)<(x0_1.length:Int) then (if (rd x0_1 (ji3))=0 then (if (ji3)≤(x0_1.length:Int) then (c1_trim.l0 k1 (x0_1.take ((ji3):Int).toNat)) else (none)) else (some x0_1)) else (none)) else (none))=some r:=by first|(rw [hji3] at H; exact H)|(simp only [hji3] at H ⊢; exact H)
    have hji3w:(IntKind.i64.wrap ((x0_1.length:Int)-1))=ji3:=(i64_w _).trans hji3
    by_cases c4:0≤(ji3)
    ·rw [if_pos c4] at H
     have c4b0:decide (0≤(ji3))=true:=decide_eq_true c4
     clear c4
     by_cases c5:(ji3)<(x0_1.length:Int)
     ·rw [if_pos c5] at H
      have c5b0:decide ((ji3)<(x0_1.length:Int))=true:=decide_eq_true c5
      clear c5
      by_cases c6:(rd x0_1 (ji3))=0
      ·rw [if_pos c6] at H
       have c6b0:((rd x0_1 (ji3)) == 0)=true:=beq_iff_eq.mpr c6
       have c6b1:((rd x0_1 (ji3)) != 0)=false:=bne_eq_false_iff_eq.mpr c6
       clear c6
       have c7b0:=eq_true (of_decide_eq_true (by first|(with_reducible assumption)|assumption):0≤(ji3))
       by_cases c8:(ji3)≤(x0_1.length:Int)
       ·rw [if_pos c8] at H
        have c8b0:=eq_true c8
        have c8b1:decide ((ji3)≤(x0_1.length:Int))=true:=decide_eq_true c8
        clear c8
        obtain ⟨y163,hy163⟩:∃ y_:List Int,y_=(x0_1.take ((ji3):Int).toNat):=⟨_,rfl⟩
        replace H:(c1_trim.l0 k1 y163)=some r:=by first|(rw [hy163]; with_reducible exact H)|(have H2_:=(Option.bind_some _ _).symm.trans H; rw [hy163]; with_reducible exact H2_)|(have H2_:=(Option.bind_some _ _).symm.trans H; with_reducible exact H2_)|with_reducible exact H|(rw [hy163]; exact H)|exact H
        have Ny163:=Aside0.mk hy163
        clear hy163
        have H':=Aside0.mk H
        clear H
        obtain ⟨Ao9,co9,eo9⟩:=Kd.V_slice HO_0.out
        subst eo9
        have p162:0≤((ji3):Int):=of_decide_eq_true (by first|(with_reducible assumption)|assumption)
        have q162:(ji3)<(x0_1.length:Int):=of_decide_eq_true (by first|(with_reducible assumption)|assumption)
        obtain ⟨ad162,e162,hx162_0⟩:=Kd.at_int (Kd.V_reads' HO_0.out).2.2 (ji3) p162 q162
        cases e162
        replace p162:=eq_true p162
        replace q162:=eq_true q162
        have q10:((ji3):Int)≤((x0_1.length:Int):Int):=of_decide_eq_true (by first|(with_reducible assumption)|assumption)
        obtain ⟨i010,hi010,_,hsz10,_⟩:=info_parts info3
        have hroom10:x0_1.length≤co9:=(Kd.V_reads' HO_0.out).2.1
        have hC10:Kd.F (Kd.int .i64) _ _ (some ad162) x0_1.length x0_1:=(Kd.V_at (base:=w.heap.size) HO_0.out).2.2
        have hcut10:=cut_to (P:=Tryz.prog) 205 3 .i64 Tryz.underlying205 hi010 (some ad162) x0_1.length co9 (ji3) (of_decide_eq_true (by first|(with_reducible assumption)|assumption)) q10 hroom10
        have hr10:=Kd.F_take (m:=((ji3):Int).toNat) hC10 (by omega)
        have hy10:y163.length=((ji3):Int).toNat:=(by rw [Ny163.out,List.length_take]; omega)
        rw [←Ny163.out] at hr10
        rw [←hy10] at hcut10
        have HO167:=Aside0.mk (show Kd.V (Kd.int .i64) 3 _ w.heap.size _ (.slice (some ad162) y163.length co9) y163 from Kd.V_mk (by omega) hr10)
        have HC167:=Aside0.mk (show y163.length≤co9 from by omega)
        clear hr10 hC10 hroom10 hi010 hsz10
        have KY10:=Aside0.mk hy10
        clear hy10
        replace q10:=eq_true q10
        go_wp2
        go_roundg k1
        case measure=>have:=HK1.out; omega
        case rel=>exact ⟨(y163),H',⟨by have:=HK1.out; omega⟩,⟨by (with_reducible repeat (first|apply Kd.V_alloc|apply Kd.V_drewN|apply Kd.V_drew)); exact HO167.out⟩,⟨by repeat (first|(with_reducible first|exact HB.out|apply zaa|apply zab|apply zae)|exact HB.out)⟩⟩
       ·rw [if_neg c8] at H
        exact absurd H (by simp)
      ·rw [if_neg c6] at H
       have c6b0:((rd x0_1 (ji3)) == 0)=false:=beq_eq_false_iff_ne.mpr c6
       have c6b1:((rd x0_1 (ji3)) != 0)=true:=bne_iff_ne.mpr c6
       obtain rfl:=Option.some.inj H
       obtain ⟨Ao11,co11,eo11⟩:=Kd.V_slice HO_0.out
       subst eo11
       have p162:0≤((ji3):Int):=of_decide_eq_true (by first|(with_reducible assumption)|assumption)
       have q162:(ji3)<(x0_1.length:Int):=of_decide_eq_true (by first|(with_reducible assumption)|assumption)
       obtain ⟨ad162,e162,hx162_0⟩:=Kd.at_int (Kd.V_reads' HO_0.out).2.2 (ji3) p162 q162
       cases e162
       replace p162:=eq_true p162
       replace q162:=eq_true q162
       go_wp2
       go_ret
       exact ⟨_,by first|rfl|(simp [zak,zaj]<;>rfl)|(simp only [←hji3]; first|rfl|(simp [zak,zaj]<;>rfl))|(simp [*,zak,zaj]<;>rfl),by (with_reducible repeat (first|apply Kd.V_alloc|apply Kd.V_drewN|apply Kd.V_drew)); exact HO_0.out,by repeat (first|(with_reducible first|exact HB.out|apply zaa|apply zab|apply zae)|exact HB.out)⟩
     ·rw [if_neg c5] at H
      exact absurd H (by simp)
    ·rw [if_neg c4] at H
     exact absurd H (by simp)
   ·rw [if_neg c2] at H
    have c2b0:decide (0<(x0_1.length:Int))=false:=decide_eq_false c2
    have c2b1:decide (0<x0_1.length)=false:=decide_eq_false (by omega)
    clear c2
    obtain rfl:=Option.some.inj H
    obtain ⟨Ao12,co12,eo12⟩:=Kd.V_slice HO_0.out
    subst eo12
    go_wp2
    go_ret
    exact ⟨_,by first|rfl|(simp [zak,zaj]<;>rfl)|(simp [*,zak,zaj]<;>rfl),by (with_reducible repeat (first|apply Kd.V_alloc|apply Kd.V_drewN|apply Kd.V_drew)); exact HO_0.out,by repeat (first|(with_reducible first|exact HB.out|apply zaa|apply zab|apply zae)|exact HB.out)⟩
mutual
def c1_limbs.l0:Nat→ByteArray→List Int→Int→Option (List Int)
 | 0,_,_,_=>none
 | k+1,x0,x3,x4=>if x4>0 then (if (wrap64 (x4-4))<0 then (c1_limbs.j1 k x0 x3 x4 0) else (c1_limbs.j1 k x0 x3 x4 (wrap64 (x4-4)))) else ((c1_trim.f k x3).bind fun t168=>(some t168))
def c1_limbs.j1:Nat→ByteArray→List Int→Int→Int→Option (List Int)
 | 0,_,_,_,_=>none
 | k+1,x0,x3,x4,x5=>c1_limbs.l1 k x0 x3 x4 0 x5
def c1_limbs.l1:Nat→ByteArray→List Int→Int→Int→Int→Option (List Int)
 | 0,_,_,_,_,_=>none
 | k+1,x0,x3,x4,x6,x7=>if x7<x4 then (if 0≤x7 then (if x7<(x0.size:Int) then (c1_limbs.l1 k x0 x3 x4 (wrap64 ((wrap64 (10*x6))+(((bt x0 x7)-48)%256))) (wrap64 (x7+1))) else (none)) else (none)) else (if x3.length<17592186044416 then (c1_limbs.l0 k x0 (x3 ++ [x6]) (wrap64 (x4-4))) else (none))
end
def c1_limbs.f (k:Nat) (a0:ByteArray):Option (List Int):=c1_limbs.l0 k a0 ([]:List Int) (a0.size:Int)
end Go.Proofs.ZP
end
