/- Texts under the proof, joined by a program (prune.py): STake, SDiv, HTrim, HLimbs, HMinus, HTake, HDivide, HRatTen, HAddAlias, HRatEven. -/
import Derived.Test.YtglaeambknhjlaaGreatDoorCRatSums11
import Derived.Test.YtglaeambknhjlaaGreatDoorCRatSums09
import Derived.Test.YtglaeambknhjlaaGreatDoorCRatSums08
import Derived.Test.YtglaeambknhjlaaGreatDoorCRatSums04
import Derived.Test.YtglaeambknhjlaaGreatDoorCRatSums03
set_option linter.unusedVariables false
set_option linter.unusedSimpArgs false
set_option exponentiation.threshold 20001
set_option maxHeartbeats 8000000
set_option maxRecDepth 100000
section
namespace Go.Proofs.ZP
open Go.RowKit Go.Proofs.ZW.Wa
theorem take_alg (L P o c M q y D c' new:Int) (h:new=o-c-M+10000*c') (hM:M=q*y):L+P*(new-o)-P*10000*c'-P*10000*(q*D)=L-P*c-P*(q*(y+10000*D)):=by
 rw [h,hM]; grind
structure DV (X0 Y:Int) (n:Nat) (xs q:List Int) (up1:Nat):Prop where
 lx:Ld xs
 lq:Ld q
 nx:xs.length=n
 nq:q.length=n
 eq:X0=lv q*Y+lv xs
 lt:lv xs<10000^up1*Y
 zero:∀ j,j<up1→rd q ((j:Nat):Int)=0
theorem DV.step {X0 Y:Int} {n up:Nat} {xs q:List Int} (h:DV X0 Y n xs q (up+1)) (hY:0<Y) (hu:up<n) :
  0≤lv (xs.drop up)/Y∧lv (xs.drop up)/Y≤9999∧lv (xs.drop up)<10000*Y∧0≤lv xs-10000^up*(lv (xs.drop up)/Y*Y) ∧
  ∀ zs,Ld zs→zs.length=n→lv zs=lv xs-10000^up*(lv (xs.drop up)/Y*Y)→DV X0 Y n zs (q.set up (lv (xs.drop up)/Y)) up:=by
 have h1:=lv_take_drop xs up (by rw [h.nx]; exact Nat.le_of_lt hu)
 have h2:=za1 (h.lx.take up)
 have h3:=lv_lt (h.lx.take up)
 rw [List.length_take,h.nx,Nat.min_eq_left (Nat.le_of_lt hu)] at h3
 have hD:=za1 (h.lx.drop up)
 have hp:=zcr up
 have hlt:=h.lt
 rw [Int.pow_succ,Int.mul_assoc] at hlt
 have hb:lv (xs.drop up)<10000*Y:=by
  apply Classical.byContradiction
  intro hn
  have h5:(10000:Int)^up*(10000*Y)≤10000^up*lv (xs.drop up):=Int.mul_le_mul_of_nonneg_left (Int.not_lt.1 hn) (Int.le_of_lt hp)
  omega
 have ht0:0≤lv (xs.drop up)/Y:=Int.ediv_nonneg hD (Int.le_of_lt hY)
 have ht1:lv (xs.drop up)/Y<10000:=Int.ediv_lt_of_lt_mul hY hb
 have hm:=Int.emod_add_mul_ediv (lv (xs.drop up)) Y
 have hm0:=Int.emod_nonneg (lv (xs.drop up)) (show Y≠0 by omega)
 have hm1:=Int.emod_lt_of_pos (lv (xs.drop up)) hY
 rw [Int.mul_comm Y] at hm
 generalize lv (xs.drop up)/Y=t at *
 generalize lv (xs.drop up)%Y=s at *
 have e:lv xs-10000^up*(t*Y)=lv (xs.take up)+10000^up*s:=by
  rw [h1,←hm,Int.mul_add]; omega
 have hs0:0≤(10000:Int)^up*s:=Int.mul_nonneg (Int.le_of_lt hp) hm0
 refine ⟨ht0,by omega,hb,by rw [e]; omega,fun zs z1 z2 z3=>⟨z1,h.lq.set _ ht0 ht1,z2,by rw [List.length_set]; exact h.nq,?_,?_,?_⟩⟩
 ·rw [lv_set _ (by rw [h.nq]; exact hu),h.zero up (by omega),z3,h.eq,Int.sub_zero,Int.add_mul,Int.mul_assoc]; omega
 ·rw [z3,e]
  have h6:(10000:Int)^up*(s+1)≤10000^up*Y:=Int.mul_le_mul_of_nonneg_left (by omega) (Int.le_of_lt hp)
  rw [Int.mul_add,Int.mul_one] at h6
  omega
 ·intro j hj
  have h7:=h.zero j (by omega)
  unfold Go.Proofs.ZW.Wa.rd at *
  rw [Int.toNat_natCast] at *
  rw [List.getD_eq_getElem?_getD] at *
  rw [List.getElem?_set_ne (by omega)]
  exact h7
theorem DV.done {X0 Y:Int} {n:Nat} {xs q:List Int} (h:DV X0 Y n xs q 0) (hY:0<Y):lv q=X0/Y∧lv xs=X0%Y:=by
 have h0:=za1 h.lx
 have h1:=h.lt
 rw [Int.pow_zero,Int.one_mul] at h1
 have:=(Int.ediv_emod_unique (a:=X0) (b:=Y) (r:=lv xs) (q:=lv q) hY).2 ⟨by have:=h.eq; rw [Int.mul_comm]; omega,h0,h1⟩
 exact ⟨this.1.symm,this.2.symm⟩
theorem lv_take_zero {ws:List Int} {n:Nat} (hn:0<n) (hl:n≤ws.length) (hz:rd ws ((n-1:Nat):Int)=0):lv (ws.take n)=lv (ws.take (n-1)):=by
 obtain ⟨m,rfl⟩:∃ m,n=m+1:=⟨n-1,by omega⟩
 simp only [Nat.add_sub_cancel] at hz ⊢
 rw [lv_take_succ ws (by omega),hz,Int.mul_zero,Int.add_zero]
theorem zcn (A:Option Addr) (c:Nat) (ws:List Int) (w:World) (hw:Kd.C (Kd.int .i64) w A ws.length ws) (hlc:ws.length≤c) (hwd:Ld ws) :
  Calls Tryz.prog 208 #[.slice A ws.length c] w fun e w'=>∃ n:Nat,e = .returned (.slice A n c)∧n≤ws.length∧ws.take n=lim (lv ws).toNat∧w=w':=by
 have hmax:=hw.2.1
 go_enter Tryz.func208,Tryz.ntmps208
 go_wp2
 go_loop [0] (fun v=>∃ n:Nat,n≤ws.length∧v = .slice A n c∧lv (ws.take n)=lv ws) (fun v=>match v with|.slice _ n _=>n|_=>0)
 case atStart=>exact ⟨ws.length,Nat.le_refl _,rfl,by rw [List.take_length]⟩
 case round =>
  obtain ⟨n,hn,rfl,hv⟩:=hrel
  have HV:=Lib.hid hv
  clear hv
  rcases Nat.eq_zero_or_pos n with h0|h0
  ·subst h0
   have HF:=Lib.hid (show ws.take 0=lim (lv ws).toNat by have:=HV.out; rw [List.take_zero] at this; rw [←this]; simp [lv,zbA])
   go_wp2
   go_ret
   exact ⟨0,rfl,Nat.zero_le _,HF.out,rfl⟩
  ·obtain ⟨ad,rfl,hcell⟩:=Kd.at_int hw ((n-1:Nat):Int) (by omega) (by omega)
   rw [Int.toNat_natCast] at hcell
   by_cases hz0:rd ws ((n-1:Nat):Int)=0
   ·have hv2:=lv_take_zero h0 hn hz0
    have HV2:=Lib.hid hv2
    clear hv2
    rw [hz0] at hcell
    clear hz0
    go_wp2
    go_round
    case rel=>exact ⟨n-1,by omega,by first|(simp; done)|(simp; omega),HV2.out.symm.trans HV.out⟩
    case measure=>simp; omega
   ·have hb:(rd ws ((n-1:Nat):Int) == 0)=false:=beq_eq_false_iff_ne.2 hz0
    have HF:=Lib.hid (show ws.take n=lim (lv ws).toNat by
     refine lim_uniq (hwd.take n) ?_ (by rw [HV.out]; have:=za1 hwd; omega)
     rw [List.getLast?_eq_getElem?,List.length_take,Nat.min_eq_left hn,List.getElem?_take,if_pos (by omega),List.getElem?_eq_getElem (by omega)]
     intro e
     rw [rd_lt (by omega)] at hz0
     exact hz0 (Option.some.inj e))
    generalize rd ws ((n-1:Nat):Int)=u at hcell hb
    clear hz0
    go_wp2
    go_ret
    exact ⟨n,rfl,hn,HF.out,rfl⟩
theorem seg_byte (s:ByteArray) (hd:Dig s.data.toList) (hs:s.size≤1099511627776) (F j:Nat) (h1:F≤j) (h2:j<F+4) (h3:j<s.size) :
  wrap64 (wrap64 (10*((seg s.data.toList F j:Nat):Int))+(((s[j]'h3).toNat:Int)-48)%256)=((seg s.data.toList F (j+1):Nat):Int):=by
 have hjl:j<s.data.toList.length:=by rw [zaq]; exact h3
 obtain ⟨c,hc9,hbt,hc⟩:=bt_dig hd h3
 obtain ⟨hl2,hc2⟩:=hc _ rfl
 have hb:=bt_at s (j:Int) (by rw [Int.toNat_natCast]; exact h3)
 have hb2:((s[j]'h3).toNat:Int)=(c:Int)+48:=by rw [←hbt,←hb]; rfl
 have hlt:=seg_lt hd F j h1 (by omega)
 have hlt2:10^(j-F)≤10^4:=Nat.pow_le_pow_right (by decide) (by omega)
 have a1:wrap64 (10*((seg s.data.toList F j:Nat):Int))=10*((seg s.data.toList F j:Nat):Int):=w64' (by omega) (by omega)
 rw [seg_succ _ h1 hjl,hc2,hb2,a1,w64' (by omega) (by omega)]; omega
structure LSt (w wr:World) (s:ByteArray) (v:Value) (xs:List Int) (e:Int):Prop where
 own:wr.ownsRow w.heap.size 3 1 v xs.length (nums .i64 xs)
 below:Below w.heap.size w wr
 ld:Ld xs
 le:e≤s.size
 ge : -4≤e
 len:xs.length≤s.size
 done:e≤0→lv xs=dval s.data.toList
 go:0<e→e+4*xs.length=s.size∧lv xs=seg s.data.toList e.toNat s.size
theorem own_take {w:World} {base e n0 n c:Nat} {A:Option Addr} {xs:List Value} (h:w.ownsRow base e 1 (.slice A n0 c) n0 xs) (hn:n≤n0):w.ownsRow base e 1 (.slice A n c) n (xs.take n):=by
 obtain ⟨h1,h2⟩:=h
 rcases h2 with ⟨hv,h0⟩|⟨g,cap,cur,hv,hg,hk,hc,hm,hs,ht⟩
 ·subst h0
  have:n=0:=by omega
  subst this
  exact ⟨by simp,Or.inl ⟨hv,rfl⟩⟩
 ·injection hv with ha _ hcc
  subst ha; subst hcc
  refine ⟨by rw [List.length_take]; omega,Or.inr ⟨g,c,cur,rfl,hg,hk,by omega,hm,hs,?_⟩⟩
  rw [←ht,List.take_take]
  congr 1
  omega
theorem infoI64:(Tryz.prog.info? 3).map (fun i=>(i.zero,i.size,i.bytes))=some (some (.int .i64 0),1,8):=by kernel_rfl
theorem LSt.more {w wr w1:World} {s:ByteArray} {vo v1:Value} {xs:List Int} {j:Nat} (h:LSt w wr s vo xs (j:Int)) (hd:Dig s.data.toList) (F:Nat) (j':Nat) (v:Int) (hv:((seg s.data.toList F j:Nat):Int)=v) (hF:F≤j∧j≤F+4∧(F=0∨F+4=j)) (he:(0:Int)<(j:Int))
  (ho:w1.ownsRow w.heap.size 3 1 v1 (xs ++ [v]).length (nums .i64 (xs ++ [v]))) (hb:Below w.heap.size w w1):Hid (LSt w w1 s v1 (xs ++ [v]) ((j:Int)-4)):=by
 have hsl:s.data.toList.length=s.size:=zaq s
 obtain ⟨hlen,hval⟩:=h.go he
 rw [Int.toNat_natCast] at hval
 obtain ⟨f1,f2,f3⟩:=hF
 have hlt:=seg_lt hd F j f1 (by omega)
 have hlt2:10^(j-F)≤10^4:=Nat.pow_le_pow_right (by decide) (by omega)
 have hv2:lv (xs ++ [v])=seg s.data.toList F s.size:=by
  rw [zci,hval,seg_join f1 (show j≤s.size by omega) (by omega)]
  have e4:s.size-j=4*xs.length:=by omega
  rw [e4,Nat.pow_mul]
  simp only [lv]
  rw [←hv,Int.natCast_add,Int.natCast_mul,Int.natCast_pow]
  grind
 refine ⟨ho,hb,h.ld.append (Ld.cons (by omega) (by omega) Ld.nil),by omega,by omega,by simp; omega,fun hle => ?_,fun hgo=>⟨by simp; omega,?_⟩⟩
 ·have:F=0:=by omega
  rw [hv2,this,←hsl,seg_all]
 ·have:F=j-4:=by omega
  rw [hv2,this,show ((j:Int)-4).toNat=j-4 by omega]
theorem zbk (s:ByteArray) (w:World) (hd:Dig s.data.toList) (hs:s.size≤1099511627776) :
  Calls Tryz.prog 203 #[.string s] w fun e w'=>∃ A c,e = .returned (.slice A (lim (dval s.data.toList)).length c)∧w'.ownsRow w.heap.size 3 1 (.slice A (lim (dval s.data.toList)).length c) (lim (dval s.data.toList)).length (nums .i64 (lim (dval s.data.toList)))∧Below w.heap.size w w':=by
 have hsl:s.data.toList.length=s.size:=zaq s
 have HL0:Hid (LSt w w s (.slice none 0 0) [] s.size):=⟨⟨rfl,Or.inl ⟨rfl,rfl⟩⟩,Below.refl _ _,Ld.nil,Int.le_refl _,by omega,Nat.zero_le _,fun h=>by
  have:s.data.toList = []:=List.length_eq_zero_iff.1 (by omega)
  rw [this]; rfl,fun h=>⟨by simp,by rw [Int.toNat_natCast]; unfold seg; rw [Nat.sub_self,List.take_zero]; rfl⟩⟩
 clear hsl
 go_enter Tryz.func203,Tryz.ntmps203
 go_wp2
 go_loopw [3,4] (fun vo ve wr=>∃ (xs:List Int) (e:Int),ve = .int .i64 e∧Hid (LSt w wr s vo xs e)) (fun _ ve _=>(intOf ve+4).toNat)
 case atStart=>exact ⟨[],(s.size:Int),rfl,HL0⟩
 case round =>
  obtain ⟨xs,e,rfl,HL⟩:=hrel
  by_cases he:0<e
  ·obtain ⟨E,rfl⟩:=Int.eq_ofNat_of_zero_le (Int.le_of_lt he)
   have hEs:E≤s.size:=by have:=HL.out.le; omega
   by_cases h4:(E:Int)<4
   ·have h4':(E:Int)-4<0:=by omega
    obtain ⟨F,hF⟩:∃ F:Nat,F=0:=⟨0,rfl⟩
    have HFE:=Lib.hid (show F≤E∧E≤F+4∧F=0 by omega)
    clear hF
    go_wp2_with fail
    go_loop [6,7] (fun vn vi=>∃ j:Nat,F≤j∧j≤E∧vi = .int .i64 j∧vn = .int .i64 ((seg s.data.toList F j:Nat):Int)) (fun _ vi=>E-(intOf vi).toNat)
    case atStart=>exact ⟨F,Nat.le_refl _,HFE.out.1,by first|rfl|exact congrArg (Value.int .i64) (by have:=HFE.out; omega),by rw [seg_self]; rfl⟩
    case round =>
     obtain ⟨j,hj1,hj2,rfl,rfl⟩:=hrel
     by_cases hje:j<E
     ·have hjs:j<s.size:=by omega
      have hjI:(j:Int)<(s.size:Int):=by omega
      have hjE:(j:Int)<(E:Int):=by omega
      have HSG:=Lib.hid (seg_byte s hd hs F j hj1 (by have:=HFE.out; omega) hjs)
      go_wp2
      go_round
      case rel=>exact ⟨j+1,by omega,by omega,by go_num,congrArg (Value.int .i64) HSG.out⟩
      case measure=>simp [intOf]; omega
     ·have hjE:j=E:=by omega
      subst hjE
      have hjn:¬ (j:Int)<(j:Int):=Int.lt_irrefl _
      obtain ⟨A8,c8,rfl,hr8⟩:=zbP HL.out.own
      clear hr8
      have HV:=Lib.hid (show True from trivial)
      generalize hve:((seg s.data.toList F j:Nat):Int)=v at *
      have HVE:=Lib.hid hve
      clear hve
      have hrow:=HL.out.own.alloc (.cells #[.int .i64 v] 3)
      have HRW:=Lib.hid hrow
      have HRL:=Lib.hid (zbZ (zcA wr wr.heap.size 3 .i64 [v] (Nat.le_refl _) (by simp)))
      have hbw:=bthen HL.out.below (zaa (Below.refl wr.heap.size wr) (.cells #[.int .i64 v] 3))
      have HBW:=Lib.hid hbw
      have hsb:=hbw.size
      have hll:(xs.length+1)*8≤140737488355328:=by have:=HL.out.len; omega
      clear hrow hbw
      go_wp2_with (at_builtin; refine zaQ w.heap.size rfl _ _ 92 3 .i64 8 rfl Tryz.underlying92 infoI64 (by decide) (.slice A8 xs.length c8) xs [v] (some ⟨wr.heap.size,0,none⟩) 1 1 rfl rfl HRW.out HRL.out HBW.out hsb hll ?_; intro v1 w1 hown hb hg hat)
      have HL2:=HL.out.more hd F j v HVE.out (by have:=HFE.out; omega) he hown hb
      clear hown hg hat
      go_wp2
      go_roundw
      case rel=>exact ⟨xs ++ [v],(j:Int)-4,by go_num,HL2⟩
      case measure=>simp [intOf]; omega
   ·obtain ⟨F,hF⟩:∃ F:Nat,F+4=E:=⟨E-4,by omega⟩
    have h4':¬ (E:Int)-4<0:=by omega
    have HFE:=Lib.hid (show F≤E∧E≤F+4∧F+4=E by omega)
    clear hF
    go_wp2_with fail
    go_loop [6,7] (fun vn vi=>∃ j:Nat,F≤j∧j≤E∧vi = .int .i64 j∧vn = .int .i64 ((seg s.data.toList F j:Nat):Int)) (fun _ vi=>E-(intOf vi).toNat)
    case atStart=>exact ⟨F,Nat.le_refl _,HFE.out.1,by first|rfl|exact congrArg (Value.int .i64) (by have:=HFE.out; omega),by rw [seg_self]; rfl⟩
    case round =>
     obtain ⟨j,hj1,hj2,rfl,rfl⟩:=hrel
     by_cases hje:j<E
     ·have hjs:j<s.size:=by omega
      have hjI:(j:Int)<(s.size:Int):=by omega
      have hjE:(j:Int)<(E:Int):=by omega
      have HSG:=Lib.hid (seg_byte s hd hs F j hj1 (by have:=HFE.out; omega) hjs)
      go_wp2
      go_round
      case rel=>exact ⟨j+1,by omega,by omega,by go_num,congrArg (Value.int .i64) HSG.out⟩
      case measure=>simp [intOf]; omega
     ·have hjE:j=E:=by omega
      subst hjE
      have hjn:¬ (j:Int)<(j:Int):=Int.lt_irrefl _
      obtain ⟨A8,c8,rfl,hr8⟩:=zbP HL.out.own
      clear hr8
      have HV:=Lib.hid (show True from trivial)
      generalize hve:((seg s.data.toList F j:Nat):Int)=v at *
      have HVE:=Lib.hid hve
      clear hve
      have hrow:=HL.out.own.alloc (.cells #[.int .i64 v] 3)
      have HRW:=Lib.hid hrow
      have HRL:=Lib.hid (zbZ (zcA wr wr.heap.size 3 .i64 [v] (Nat.le_refl _) (by simp)))
      have hbw:=bthen HL.out.below (zaa (Below.refl wr.heap.size wr) (.cells #[.int .i64 v] 3))
      have HBW:=Lib.hid hbw
      have hsb:=hbw.size
      have hll:(xs.length+1)*8≤140737488355328:=by have:=HL.out.len; omega
      clear hrow hbw
      go_wp2_with (at_builtin; refine zaQ w.heap.size rfl _ _ 92 3 .i64 8 rfl Tryz.underlying92 infoI64 (by decide) (.slice A8 xs.length c8) xs [v] (some ⟨wr.heap.size,0,none⟩) 1 1 rfl rfl HRW.out HRL.out HBW.out hsb hll ?_; intro v1 w1 hown hb hg hat)
      have HL2:=HL.out.more hd F j v HVE.out (by have:=HFE.out; omega) he hown hb
      clear hown hg hat
      go_wp2
      go_roundw
      case rel=>exact ⟨xs ++ [v],(j:Int)-4,by go_num,HL2⟩
      case measure=>simp [intOf]; omega
  ·have hR:Kd.R (Kd.int .i64) 3 wr w.heap.size (fun _=>True) u3 xs:=⟨fun _ _=>trivial,nums .i64 xs,HL.out.own,zc8 .i64 xs⟩
   obtain ⟨A8,c8,rfl,hle8,hC⟩:=Kd.R_reads hR
   have HTR:=fun W=>zcn A8 c8 xs W
   clear hR
   go_wp2_with fail
   refine (HTR _ hC hle8 HL.out.ld).mono ?_
   rintro e2 w2 ⟨m,rfl,hm,htk,rfl⟩
   have hfin:=HL.out.done (by omega)
   rw [hfin,Int.toNat_natCast] at htk
   have how:=own_take HL.out.own hm
   have hml:m=(lim (dval s.data.toList)).length:=by rw [←htk,List.length_take]; omega
   have hB:=HL.out.below
   have HO:=Lib.hid (show wr.ownsRow w.heap.size 3 1 (.slice A8 (lim (dval s.data.toList)).length c8) (lim (dval s.data.toList)).length (nums .i64 (lim (dval s.data.toList))) by
    rw [←hml,←htk]
    have:nums .i64 (xs.take m)=(nums .i64 xs).take m:=by simp [nums]
    rw [this]; exact how)
   rw [hml]
   clear hfin htk how hml hC
   go_wp2
   go_ret
   exact ⟨A8,c8,rfl,HO.out,hB⟩
theorem zcI {w:World} {base e n c:Nat} {A:Option Addr} {xs:List Value} (h:w.ownsRow base e 1 (.slice A n c) n xs) (hn:0<n):∃ g,A=some ⟨g,0,none⟩∧base≤g∧g<w.heap.size:=by
 have hl:=h.lt
 obtain ⟨h1,h2⟩:=h
 rcases h2 with ⟨hv,h0⟩|⟨g,cap,cur,hv,hg,hk,hc,hm,hs,ht⟩
 ·subst h0
  simp at h1
  omega
 ·injection hv with ha _ hcc
  subst ha
  exact ⟨g,rfl,hl g rfl⟩
theorem own_C {w:World} {base c:Nat} {A:Option Addr} {xs:List Int} (h:w.ownsRow base 3 1 (.slice A xs.length c) xs.length (nums .i64 xs)):Kd.C (Kd.int .i64) w A xs.length xs∧xs.length≤c:=by
 have hR:Kd.R (Kd.int .i64) 3 w base (fun _=>True) (.slice A xs.length c) xs:=⟨fun _ _=>trivial,nums .i64 xs,h,zc8 .i64 xs⟩
 obtain ⟨A8,c8,he,hle8,hC⟩:=Kd.R_reads hR
 injection he with e1 _ e3
 subst e1; subst e3
 exact ⟨hC,hle8⟩
theorem lim_len_le {a b:Nat} (h:b≤a):(lim b).length≤(lim a).length:=by
 refine lim_len ?_
 have h1:=lv_lt (zcc a)
 rw [zbG] at h1
 have h2:((a:Nat):Int)<((10000^(lim a).length:Nat):Int):=by rw [Int.natCast_pow]; exact h1
 omega
structure MSt (w w1 wr:World) (A1:Option Addr) (c1:Nat) (A2:Option Addr) (c2:Nat) (D:Int) (n:Nat) (ys zs:List Int) (i:Nat) (c:Int):Prop where
 le:i≤n
 zl:zs.length=n
 ld:Ld zs
 c0:0≤c
 c9:c≤1
 ox:wr.ownsRow w.heap.size 3 1 (.slice A1 n c1) n (nums .i64 zs)
 oy:wr.ownsRow w1.heap.size 3 1 (.slice A2 ys.length c2) ys.length (nums .i64 ys)
 below:Below w.heap.size w wr
 eq:lv zs-10000^i*c-10000^i*lv (ys.drop i)=D
theorem minus_alg (L P o c c' y D new:Int) (h:new=o-c-y+10000*c'):L+P*(new-o)-P*10000*c'-P*10000*D=L-P*c-P*(y+10000*D):=by
 rw [h]; grind
theorem MSt.step {w w1 wr:World} {g:Nat} {c1:Nat} {A2:Option Addr} {c2:Nat} {D:Int} {n:Nat} {ys zs:List Int} {i:Nat} {c z y:Int} (h:MSt w w1 wr (some ⟨g,0,none⟩) c1 A2 c2 D n ys zs i c) (hi:i<n) (hg:w.heap.size≤g) (hg1:g<w1.heap.size)
  (hz:rd zs (i:Int)=z) (hy:rz ys i=y) (v c':Int) (hv:v=z-c-y+10000*c') (v0:0≤v) (v9:v<10000) (c0:0≤c') (c9:c'≤1) :
  Hid (MSt w w1 (wr.setCell ⟨g,i,none⟩ (.int .i64 v)) (some ⟨g,0,none⟩) c1 A2 c2 D n ys (zs.set i v) (i+1) c'):=by
 have hst:=za6 h.ox (i:Int) v
 rw [Int.toNat_natCast] at hst
 exact {
  le:=by omega
  zl:=by rw [List.length_set]; exact h.zl
  ld:=h.ld.set i v0 v9
  c0:=c0
  c9:=c9
  ox:=hst.1
  oy:=ownsRow_setCell_below h.oy (a:=⟨g,i,none⟩) hg1 _
  below:=h.below.setCell hg _
  eq:=by
   have hd:=lv_drop ys i
   rw [hy] at hd
   rw [lv_set v (by rw [h.zl]; exact hi),hz,←h.eq,hd,Int.pow_succ]
   exact minus_alg _ _ _ _ _ _ _ _ hv }
theorem MSt.fin {w w1 wr:World} {A1 A2:Option Addr} {c1 c2 n a b:Nat} {ys zs:List Int} {c:Int} (h:MSt w w1 wr A1 c1 A2 c2 ((a:Int)-b) n ys zs n c) (hle:b≤a) (hy:ys.length≤n):lv zs=((a-b:Nat):Int):=by
 have he:=h.eq
 have hnil:ys.drop n = []:=List.drop_eq_nil_of_le hy
 rw [hnil,show lv []=0 from rfl,Int.mul_zero,Int.sub_zero] at he
 have h2:=lv_lt h.ld
 rw [h.zl] at h2
 have hc0:=h.c0
 have hc9:=h.c9
 have hc:c=0:=by
  apply Classical.byContradiction
  intro hc
  have:c=1:=by omega
  subst this
  rw [Int.mul_one] at he
  generalize (10000:Int)^n=P at *
  omega
 subst hc
 rw [Int.mul_zero] at he
 omega
theorem minus_walk (a b:Nat) (w:World) (ha:(T a).size≤137438953472) (hb:(T b).size≤137438953472) (hle:b≤a) :
  Calls Tryz.prog 130 #[.string (T a),.string (T b)] w fun e w'=>e = .returned (.string (T (a-b)))∧Below w.heap.size w w':=by
 have HA:=fun W=>zbk (T a) W (T_can a).2.1 (show _≤_ by omega)
 have HB:=fun W=>zbk (T b) W (T_can b).2.1 (show _≤_ by omega)
 rw [zbF] at HA HB
 have hla:=zaY a
 have hlb:=zaY b
 have hyn:=lim_len_le hle
 have hxv:=zbG a
 have hyv:=zbG b
 have hxd:=zcc a
 have hyd:=zcc b
 generalize lim a=xs at *
 generalize lim b=ys at *
 have HXV:=Lib.hid hxv
 have HYV:=Lib.hid hyv
 clear hxv hyv
 go_enter Tryz.func130,Tryz.ntmps130
 go_wp2_with fail
 refine (HA _).mono ?_
 rintro e w1 ⟨A1,c1,rfl,ho1,hb1⟩
 go_wp2_with fail
 refine (HB _).mono ?_
 rintro e w2 ⟨A2,c2,rfl,ho2,hb2⟩
 have hM:MSt w w1 w2 A1 c1 A2 c2 ((a:Int)-b) xs.length ys xs 0 0:={
  le:=Nat.zero_le _
  zl:=rfl
  ld:=hxd
  c0:=by decide
  c9:=by decide
  ox:=ho1.kept (World.grownBy.mk hb2.os hb2.tape hb2.output hb2.size (row:=none) (fun k hk _=>hb2.block k hk)) (Classical.em _)
  oy:=ho2
  below:=bthen hb1 hb2
  eq:=by rw [List.drop_zero,HXV.out,HYV.out]; simp }
 have HG1:=Lib.hid (fun g (h:A1=some ⟨g,0,none⟩)=>(ho1.lt g (by rw [h]; rfl)))
 have HM:=Lib.hid hM
 clear hM ho1 ho2 hb1 hb2
 go_wp2
 go_loopw [7,8] (fun vc vi wr=>∃ (i:Nat) (c:Int) (zs:List Int),vc = .int .i64 c∧vi = .int .i64 i∧Hid (MSt w w1 wr A1 c1 A2 c2 ((a:Int)-b) xs.length ys zs i c)) (fun _ vi _=>xs.length-(intOf vi).toNat)
 case atStart=>exact ⟨0,0,xs,rfl,rfl,HM⟩
 case round =>
  obtain ⟨i,c,zs,rfl,rfl,HM⟩:=hrel
  have hc0:=HM.out.c0
  have hc9:=HM.out.c9
  have hin:=HM.out.le
  by_cases hil:i<xs.length
  ·obtain ⟨g,rfl,-,-⟩:=zcI HM.out.ox (by omega)
   obtain ⟨hg0,hg1⟩:=HG1.out g rfl
   obtain ⟨hs1,hs2⟩:=zbX HM.out.ox (i:Int) (by omega) (by omega)
   have hbz:=HM.out.ld.rd (i:Int)
   rw [Int.toNat_natCast] at hs1 hs2
   obtain ⟨z,hz⟩:∃ z,rd zs (i:Int)=z:=⟨_,rfl⟩
   rw [hz] at hs1 hbz
   obtain ⟨hz0,hz9⟩:=hbz
   have HZ:=Lib.hid hz
   clear hz
   by_cases hiy:i<ys.length
   ·obtain ⟨g2,rfl,-,-⟩:=zcI HM.out.oy (by omega)
    obtain ⟨ht1,ht2⟩:=zbX HM.out.oy (i:Int) (by omega) (by omega)
    have hby:=hyd.rd (i:Int)
    rw [Int.toNat_natCast] at ht1 ht2
    obtain ⟨y,hy⟩:∃ y,rd ys (i:Int)=y:=⟨_,rfl⟩
    rw [hy] at ht1 hby
    obtain ⟨hy0,hy9⟩:=hby
    have HY:=Lib.hid (show rz ys i=y by unfold rz; rw [if_pos hiy]; exact hy)
    clear hy ht2
    by_cases hneg:z-c-y<0
    ·have HST:=MSt.step HM.out hil hg0 hg1 HZ.out HY.out (z-c-y+10000) 1 (by omega) (by omega) (by omega) (by decide) (by decide)
     go_wp2
     go_roundw
     case rel=>exact ⟨i+1,1,_,rfl,by go_num,HST⟩
     case measure=>simp [intOf]; omega
    ·have HST:=MSt.step HM.out hil hg0 hg1 HZ.out HY.out (z-c-y) 0 (by omega) (by omega) (by omega) (by decide) (by decide)
     go_wp2
     go_roundw
     case rel=>exact ⟨i+1,0,_,rfl,by go_num,HST⟩
     case measure=>simp [intOf]; omega
   ·have HY:=Lib.hid (show rz ys i=0 by unfold rz; rw [if_neg hiy])
    by_cases hneg:z-c<0
    ·have HST:=MSt.step HM.out hil hg0 hg1 HZ.out HY.out (z-c+10000) 1 (by omega) (by omega) (by omega) (by decide) (by decide)
     go_wp2
     go_roundw
     case rel=>exact ⟨i+1,1,_,rfl,by go_num,HST⟩
     case measure=>simp [intOf]; omega
    ·have HST:=MSt.step HM.out hil hg0 hg1 HZ.out HY.out (z-c) 0 (by omega) (by omega) (by omega) (by decide) (by decide)
     go_wp2
     go_roundw
     case rel=>exact ⟨i+1,0,_,rfl,by go_num,HST⟩
     case measure=>simp [intOf]; omega
  ·obtain rfl:i=xs.length:=by omega
   have hfin:=HM.out.fin hle hyn
   have hzl:=HM.out.zl
   have hox:=HM.out.ox
   rw [←hzl] at hox
   obtain ⟨hC,hlc⟩:=own_C hox
   have HT:=fun W=>zcn A1 c1 zs W
   have HZL:=Lib.hid hzl
   have HF:=Lib.hid hfin
   have hB:=HM.out.below
   have hld:=HM.out.ld
   clear hzl hfin hox
   go_wp2_with fail
   rw [←HZL.out]
   refine (HT _ hC hlc hld).mono ?_
   rintro e w3 ⟨m,rfl,hm,htk,rfl⟩
   rw [HF.out,Int.toNat_natCast] at htk
   have hC2:=Kd.C_take hC hm
   rw [htk] at hC2
   have hml:m=(lim (a-b)).length:=by rw [←htk,List.length_take]; omega
   have hll:=zaY (a-b)
   have hls:(T (a-b)).size≤(T a).size:=by rw [zb6,zb6]; exact zbC (Nat.sub_le a b)
   subst hml
   have HTX:=zc2 (a-b) (show _≤_ by omega)
   have HTC:=c1_text.calls A1 c1 (lim (a-b)) (T (a-b)) wr hC2 (by omega) HTX
   clear hC hC2 htk HTX
   go_wp2_with fail
   refine HTC.mono ?_
   rintro e w4 ⟨rfl,hb4⟩
   go_wp2
   go_ret
   exact ⟨rfl,bthen hB hb4⟩
def numP (s:ByteArray):Option Nat:=if ZP.Can s.data.toList∧s.size≤137438953472 then some (dval s.data.toList) else none
theorem numP_T {n:Nat} (h:(T n).size≤137438953472):numP (T n)=some n:=by unfold numP; rw [if_pos ⟨T_can n,h⟩,zbF]
theorem zdg {s:ByteArray} {n:Nat} (h:numP s=some n):s=T n∧(T n).size≤137438953472:=by
 unfold numP at h
 split at h
 ·rename_i hc
  obtain rfl:=Option.some.inj h
  exact ⟨can_T hc.1,by rw [←can_T hc.1]; exact hc.2⟩
 ·cases h
def c1_Minus.f (a0 a1:ByteArray):Option ByteArray:=(numP a0).bind fun x=>(numP a1).bind fun y=>if y≤x then some (T (x-y)) else none
theorem c1_Minus.calls (a0 a1:ByteArray) (r:ByteArray) (w:World) (h:c1_Minus.f a0 a1=some r) :
  Calls Tryz.prog 130 #[.string a0,.string a1] w fun e w'=>e = .returned (.string r)∧Below w.heap.size w w':=by
 unfold c1_Minus.f at h
 obtain ⟨x,hx,h3⟩:=Option.bind_eq_some_iff.1 h
 obtain ⟨y,hy,h4⟩:=Option.bind_eq_some_iff.1 h3
 clear h h3
 obtain ⟨rfl,h1⟩:=zdg hx
 obtain ⟨rfl,h2⟩:=zdg hy
 split at h4
 ·rename_i hc
  obtain rfl:=Option.some.inj h4
  exact minus_walk x y w h1 h2 hc
 ·cases h4
structure KSt (b0 b1:Nat) (w wr:World) (g c1 n:Nat) (A2:Option Addr) (c2:Nat) (ys zs:List Int) (up:Nat) (q R:Int) (k:Nat) (c:Int):Prop where
 le:up+k≤n
 zl:zs.length=n
 ld:Ld zs
 c0:0≤c
 c9:c≤9999
 ox:wr.ownsRow b0 3 1 (.slice (some ⟨g,0,none⟩) n c1) n (nums .i64 zs)
 oy:wr.ownsRow b1 3 1 (.slice A2 ys.length c2) ys.length (nums .i64 ys)
 keep:KeepB w wr g
 eq:lv zs-10000^(up+k)*c-10000^(up+k)*(q*lv (ys.drop k))=R
theorem KSt.zero {b0 b1:Nat} {w wr:World} {g c1 n:Nat} {A2:Option Addr} {c2:Nat} {ys zs:List Int} {up:Nat} {q R:Int} {k:Nat} {c:Int} (h:KSt b0 b1 w wr g c1 n A2 c2 ys zs up q R k c) (hR:0≤R) (hu:up+ys.length≤n) (hk:¬ up+k<n):ys.length≤k∧c=0:=by
 have hle:=h.le
 have he:=h.eq
 have h2:=lv_lt h.ld
 have h0:=h.c0
 refine ⟨by omega,?_⟩
 have hnil:ys.drop k = []:=List.drop_eq_nil_of_le (by omega)
 rw [hnil,show lv []=0 from rfl,Int.mul_zero,Int.mul_zero,Int.sub_zero,show up+k=n by omega] at he
 rw [h.zl] at h2
 apply Classical.byContradiction
 intro hc
 have h3:(10000:Int)^n*1≤10000^n*c:=Int.mul_le_mul_of_nonneg_left (by omega) (Int.le_of_lt (zcr n))
 generalize (10000:Int)^n=P at *
 omega
theorem KSt.fin {b0 b1:Nat} {w wr:World} {g c1 n:Nat} {A2:Option Addr} {c2:Nat} {ys zs:List Int} {up:Nat} {q R:Int} {k:Nat} (h:KSt b0 b1 w wr g c1 n A2 c2 ys zs up q R k 0) (hk:ys.length≤k):lv zs=R:=by
 have he:=h.eq
 have hnil:ys.drop k = []:=List.drop_eq_nil_of_le hk
 rw [hnil,show lv []=0 from rfl,Int.mul_zero,Int.mul_zero,Int.mul_zero,Int.sub_zero,Int.sub_zero] at he
 exact he
theorem KSt.step {b0 b1:Nat} {w wr:World} {g c1 n:Nat} {A2:Option Addr} {c2:Nat} {ys zs:List Int} {up:Nat} {q R:Int} {k:Nat} {c z y:Int} (h:KSt b0 b1 w wr g c1 n A2 c2 ys zs up q R k c) (hk:up+k<n) (hg:g<b1)
  (hz:rd zs ((up+k:Nat):Int)=z) (hy:rz ys k=y) (v c':Int) (hv:v=z-c-q*y+10000*c') (v0:0≤v) (v9:v<10000) (c0:0≤c') (c9:c'≤9999) :
  Hid (KSt b0 b1 w (wr.setCell ⟨g,up+k,none⟩ (.int .i64 v)) g c1 n A2 c2 ys (zs.set (up+k) v) up q R (k+1) c'):=by
 have hst:=za6 h.ox ((up+k:Nat):Int) v
 rw [Int.toNat_natCast] at hst
 exact {
  le:=by omega
  zl:=by rw [List.length_set]; exact h.zl
  ld:=h.ld.set _ v0 v9
  c0:=c0
  c9:=c9
  ox:=hst.1
  oy:=ownsRow_setCell_below h.oy (a:=⟨g,up+k,none⟩) hg _
  keep:=h.keep.set _ _
  eq:=by
   have hd:=lv_drop ys k
   rw [hy] at hd
   rw [lv_set v (by rw [h.zl]; exact hk),hz,←h.eq,hd,show up+(k+1)=(up+k)+1 by omega,Int.pow_succ]
   exact take_alg _ _ _ _ (q*y) _ _ _ _ _ hv rfl }
def KPost (b0 g c1 n:Nat) (w:World) (R:Int) (e:Ending) (w':World):Prop:=∃ zs,e = .returned (.tuple #[])∧Ld zs∧zs.length=n∧lv zs=R∧w'.ownsRow b0 3 1 (.slice (some ⟨g,0,none⟩) n c1) n (nums .i64 zs)∧KeepB w w' g
theorem KPost.mk' {b0 g c1 n:Nat} {w:World} {R:Int} {w':World} (zs:List Int) (h1:Ld zs) (h2:zs.length=n) (h3:lv zs=R) (h4:w'.ownsRow b0 3 1 (.slice (some ⟨g,0,none⟩) n c1) n (nums .i64 zs)) (h5:KeepB w w' g):KPost b0 g c1 n w R (.returned (.tuple #[])) w':=⟨zs,rfl,h1,h2,h3,h4,h5⟩
theorem rtake_calls (b0 b1 g c1 n:Nat) (A2:Option Addr) (c2:Nat) (xs ys:List Int) (up:Nat) (q:Int) (w:World) (ox:w.ownsRow b0 3 1 (.slice (some ⟨g,0,none⟩) n c1) n (nums .i64 xs)) (oy:w.ownsRow b1 3 1 (.slice A2 ys.length c2) ys.length (nums .i64 ys))
  (hxl:xs.length=n) (hx:Ld xs) (hy:Ld ys) (hg:g<b1) (hq:0≤q∧q≤9999) (hu:up+ys.length≤n) (hn:n≤1000000000000) (hR:0≤lv xs-10000^up*(q*lv ys)) :
  Calls Tryz.prog 206 #[.slice (some ⟨g,0,none⟩) n c1,.slice A2 ys.length c2,.int .i64 up,.int .i64 q] w (KPost b0 g c1 n w (lv xs-10000^up*(q*lv ys))):=by
 obtain ⟨R,hRe⟩:∃ R,lv xs-10000^up*(q*lv ys)=R:=⟨_,rfl⟩
 rw [hRe] at hR ⊢
 have HM:Hid (KSt b0 b1 w w g c1 n A2 c2 ys xs up q R 0 0):=Lib.hid {
  le:=by omega
  zl:=hxl
  ld:=hx
  c0:=by decide
  c9:=by decide
  ox:=ox
  oy:=oy
  keep:=KeepB.refl _ _
  eq:=by rw [List.drop_zero,Int.mul_zero,Int.sub_zero,Nat.add_zero,hRe] }
 obtain ⟨hq0,hq9⟩:=hq
 clear hRe hxl ox oy
 go_enter Tryz.func206,Tryz.ntmps206
 go_wp2
 go_loopw [8,9] (fun vc vk wr=>∃ (k:Nat) (c:Int) (zs:List Int),vc = .int .i64 c∧vk = .int .i64 k∧Hid (KSt b0 b1 w wr g c1 n A2 c2 ys zs up q R k c)) (fun _ vk _=>n-up-(intOf vk).toNat)
 case atStart=>exact ⟨0,0,xs,rfl,rfl,HM⟩
 case round =>
  obtain ⟨k,c,zs,rfl,rfl,HM⟩:=hrel
  have hc0:=HM.out.c0
  have hc9:=HM.out.c9
  have hle:=HM.out.le
  by_cases hkn:up+k<n
  ·obtain ⟨hs1,hs2⟩:=zbX HM.out.ox ((up+k:Nat):Int) (by omega) (by omega)
   have hbz:=HM.out.ld.rd ((up+k:Nat):Int)
   rw [Int.toNat_natCast] at hs1 hs2
   obtain ⟨z,hz⟩:∃ z,rd zs ((up+k:Nat):Int)=z:=⟨_,rfl⟩
   rw [hz] at hs1 hbz
   obtain ⟨hz0,hz9⟩:=hbz
   have HZ:=Lib.hid hz
   clear hz
   by_cases hky:k<ys.length
   ·obtain ⟨g2,rfl,-,-⟩:=zcI HM.out.oy (by omega)
    obtain ⟨ht1,ht2⟩:=zbX HM.out.oy (k:Int) (by omega) (by omega)
    have hby:=hy.rd (k:Int)
    rw [Int.toNat_natCast] at ht1 ht2
    obtain ⟨y,hyy⟩:∃ y,rd ys (k:Int)=y:=⟨_,rfl⟩
    rw [hyy] at ht1 hby
    obtain ⟨hy0,hy9⟩:=hby
    have HY:=Lib.hid (show rz ys k=y by unfold rz; rw [if_pos hky]; exact hyy)
    clear hyy ht2
    have hM0:0≤q*y:=Int.mul_nonneg hq0 hy0
    have hM1:q*y≤9999*9999:=Int.le_trans (Int.mul_le_mul_of_nonneg_left (by omega) hq0) (Int.mul_le_mul_of_nonneg_right hq9 (by decide))
    by_cases hneg:z-c-q*y<0
    ·have HST:=KSt.step HM.out hkn hg HZ.out HY.out (z-c-q*y+(-(z-c-q*y)+10000-1)/10000*10000) ((-(z-c-q*y)+10000-1)/10000) (by omega) (by omega) (by omega) (by omega) (by omega)
     go_wp2
     go_roundw
     case rel=>exact ⟨k+1,_,_,rfl,by go_num,HST⟩
     case measure=>simp [intOf]; omega
    ·have HST:=KSt.step HM.out hkn hg HZ.out HY.out (z-c-q*y) 0 (by omega) (by omega) (by omega) (by decide) (by decide)
     go_wp2
     go_roundw
     case rel=>exact ⟨k+1,0,_,rfl,by go_num,HST⟩
     case measure=>simp [intOf]; omega
   ·have HY:=Lib.hid (show rz ys k=0 by unfold rz; rw [if_neg hky])
    by_cases hcp:0<c
    ·by_cases hneg:z-c<0
     ·have HST:=KSt.step HM.out hkn hg HZ.out HY.out (z-c+(-(z-c)+10000-1)/10000*10000) ((-(z-c)+10000-1)/10000) (by omega) (by omega) (by omega) (by omega) (by omega)
      go_wp2
      go_roundw
      case rel=>exact ⟨k+1,_,_,rfl,by go_num,HST⟩
      case measure=>simp [intOf]; omega
     ·have HST:=KSt.step HM.out hkn hg HZ.out HY.out (z-c) 0 (by omega) (by omega) (by omega) (by decide) (by decide)
      go_wp2
      go_roundw
      case rel=>exact ⟨k+1,0,_,rfl,by go_num,HST⟩
      case measure=>simp [intOf]; omega
    ·obtain rfl:c=0:=by omega
     have hfin:=Lib.hid (HM.out.fin (by omega))
     have H0:Hid (Ld zs∧zs.length=n):=Lib.hid ⟨HM.out.ld,HM.out.zl⟩
     go_wp2
     go_end0
     exact KPost.mk' zs H0.out.1 H0.out.2 hfin.out HM.out.ox HM.out.keep
  ·obtain ⟨hky,rfl⟩:=HM.out.zero hR hu hkn
   have hky':¬ k<ys.length:=by omega
   have hfin:=Lib.hid (HM.out.fin hky)
   have H0:Hid (Ld zs∧zs.length=n):=Lib.hid ⟨HM.out.ld,HM.out.zl⟩
   go_wp2
   go_end0
   exact KPost.mk' zs H0.out.1 H0.out.2 hfin.out HM.out.ox HM.out.keep
theorem rless_calls (A1:Option Addr) (c1:Nat) (xs:List Int) (A2:Option Addr) (c2:Nat) (ys:List Int) (w:World) (h1:Kd.C (Kd.int .i64) w A1 xs.length xs) (k1:xs.length≤c1) (h2:Kd.C (Kd.int .i64) w A2 ys.length ys) (k2:ys.length≤c2)
  (hx:Ld xs) (hy:Ld ys) (tx:xs.getLast? ≠ some 0) (ty:ys.getLast? ≠ some 0) (hm:xs.length≤1099511627776) :
  Calls Tryz.prog 204 #[.slice A1 xs.length c1,.slice A2 ys.length c2] w fun e w'=>e = .returned (.bool (decide (lv xs<lv ys)))∧Below w.heap.size w w':=by
 obtain ⟨k,hk⟩:=(less_ev xs ys hx hy tx ty hm).rounds
 exact (ZP.c1_less.calls k A1 c1 xs A2 c2 ys _ w h1 k1 h2 k2 hk).mono fun e w' ⟨he,hd⟩=>⟨he,by obtain ⟨n,rfl⟩:=hd; exact zao _ _⟩
theorem rfits_calls (A1:Option Addr) (c1:Nat) (xs:List Int) (A2:Option Addr) (c2:Nat) (ys:List Int) (up:Nat) (w:World) (h1:Kd.C (Kd.int .i64) w A1 xs.length xs) (k1:xs.length≤c1) (h2:Kd.C (Kd.int .i64) w A2 ys.length ys) (k2:ys.length≤c2)
  (hx:Ld xs) (hy:Ld ys) (hu:up≤xs.length) (hlx:xs.length≤1000000000000) (hly:ys.length≤1000000000000) (hY:0<lv ys) (hlt:lv (xs.drop up)<10000*lv ys) :
  Calls Tryz.prog 205 #[.slice A1 xs.length c1,.slice A2 ys.length c2,.int .i64 up] w fun e w'=>e = .returned (.int .i64 (lv (xs.drop up)/lv ys))∧Below w.heap.size w w':=by
 obtain ⟨k,hk⟩:=(fits_ev xs ys hx hy up hu hlx hly hY hlt).rounds
 exact ZP.c1_fits.calls k A1 c1 xs A2 c2 ys up _ w h1 k1 h2 k2 hk
structure QSt (w w1 wr:World) (g c1 n:Nat) (A2:Option Addr) (c2:Nat) (ys:List Int) (gq:Nat) (X0:Int) (xs q:List Int) (j:Nat):Prop where
 dv:DV X0 (lv ys) n xs q j
 le:j+ys.length≤n+1
 ox:wr.ownsRow w.heap.size 3 1 (.slice (some ⟨g,0,none⟩) n c1) n (nums .i64 xs)
 oy:wr.ownsRow w1.heap.size 3 1 (.slice A2 ys.length c2) ys.length (nums .i64 ys)
 oq:wr.ownsRow w.heap.size 3 1 (.slice (some ⟨gq,0,none⟩) n n) n (nums .i64 q)
 below:Below w.heap.size w wr
theorem QSt.below' {w w1 wr w':World} {g c1 n:Nat} {A2:Option Addr} {c2:Nat} {ys:List Int} {gq:Nat} {X0:Int} {xs q:List Int} {j:Nat} (h:QSt w w1 wr g c1 n A2 c2 ys gq X0 xs q j) (hb:Below wr.heap.size wr w'):QSt w w1 w' g c1 n A2 c2 ys gq X0 xs q j where
 dv:=h.dv
 le:=h.le
 ox:=zbQ h.ox hb
 oy:=zbQ h.oy hb
 oq:=zbQ h.oq hb
 below:=bthen h.below hb
theorem QSt.next {w w1 wr w':World} {g c1 n:Nat} {A2:Option Addr} {c2:Nat} {ys:List Int} {gq:Nat} {X0:Int} {xs q zs:List Int} {up:Nat} (h:QSt w w1 wr g c1 n A2 c2 ys gq X0 xs q (up+1)) (hY:0<lv ys) (hyl:0<ys.length)
  (hgw:w.heap.size≤g) (hg1:g<w1.heap.size) (hgq:w1.heap.size≤gq) (hqy:∀ g2,A2=some ⟨g2,0,none⟩→g2≠gq) (hw1:w.heap.size≤w1.heap.size)
  (z1:Ld zs) (z2:zs.length=n) (t:Int) (ht:lv (xs.drop up)/lv ys=t) (z3:lv zs=lv xs-10000^up*(t*lv ys))
  (ox:w'.ownsRow w.heap.size 3 1 (.slice (some ⟨g,0,none⟩) n c1) n (nums .i64 zs)) (hk:KeepB (wr.setCell ⟨gq,up,none⟩ (.int .i64 t)) w' g) :
  Hid (QSt w w1 w' g c1 n A2 c2 ys gq X0 zs (q.set up t) up):=by
 subst ht
 have hle:=h.le
 have hu:up<n:=by omega
 have hst:=za6 h.oq (up:Int) (lv (xs.drop up)/lv ys)
 rw [Int.toNat_natCast] at hst
 have hB:=h.below.setCell (p:=⟨gq,up,none⟩) (show w.heap.size≤gq by omega) (.int .i64 (lv (xs.drop up)/lv ys))
 have hk2:KeepB wr (wr.setCell ⟨gq,up,none⟩ (.int .i64 (lv (xs.drop up)/lv ys))) gq:=(KeepB.refl wr gq).set up _
 obtain ⟨g2,he2,hg2,hg2'⟩:=zcI h.oy hyl
 exact {
  dv:=(h.dv.step hY hu).2.2.2.2 zs z1 z2 z3
  le:=by omega
  ox:=ox
  oy:=by
   refine (h.oy.kept hk2.grown (Or.inr ?_)).kept hk.grown (Or.inr ?_)
   ·subst he2
    have:=hqy g2 rfl
    simpa [Value.ownBlock] using this
   ·subst he2
    have:g2≠g:=by omega
    simpa [Value.ownBlock] using this
  oq:=hst.1.kept hk.grown (Or.inr (by
   have:gq≠g:=by omega
   simpa [Value.ownBlock] using this))
  below:=KeepB.below hB hk hgw }
theorem QSt.set {w w1 wr:World} {g c1 n:Nat} {A2:Option Addr} {c2:Nat} {ys:List Int} {gq:Nat} {X0:Int} {xs q:List Int} {j:Nat} (h:QSt w w1 wr g c1 n A2 c2 ys gq X0 xs q j) (hyl:0<ys.length) (hgq:g≠gq) (hqy:∀ g2,A2=some ⟨g2,0,none⟩→g2≠gq) (up:Nat) (t:Int) :
  (wr.setCell ⟨gq,up,none⟩ (.int .i64 t)).ownsRow w.heap.size 3 1 (.slice (some ⟨g,0,none⟩) n c1) n (nums .i64 xs)∧(wr.setCell ⟨gq,up,none⟩ (.int .i64 t)).ownsRow w1.heap.size 3 1 (.slice A2 ys.length c2) ys.length (nums .i64 ys):=by
 have hk2:KeepB wr (wr.setCell ⟨gq,up,none⟩ (.int .i64 t)) gq:=(KeepB.refl wr gq).set up _
 obtain ⟨g2,he2,hg2,hg2'⟩:=zcI h.oy hyl
 refine ⟨h.ox.kept hk2.grown (Or.inr (by simpa [Value.ownBlock] using hgq)),h.oy.kept hk2.grown (Or.inr ?_)⟩
 subst he2
 have:=hqy g2 rfl
 simpa [Value.ownBlock] using this
theorem lim_ne {n:Nat} (h:0<n):0<(lim n).length:=by rw [zcs h]; simp
theorem DV.start {xs ys:List Int} (hx:Ld xs) (hy:Ld ys) (ty:ys.getLast? ≠ some 0) (hyl:0<ys.length) (hle:ys.length≤xs.length):DV (lv xs) (lv ys) xs.length xs (List.replicate xs.length 0) (xs.length-ys.length+1) where
 lx:=hx
 lq:=Ld.zeros _
 nx:=rfl
 nq:=by simp
 eq:=by rw [lv_zeros,Int.zero_mul,Int.zero_add]
 lt:=by
  have h1:=lv_lt hx
  have h2:=lv_top hy ty (by intro e; rw [e] at hyl; simp at hyl)
  have h3:(10000:Int)^xs.length=10000^(xs.length-ys.length+1)*10000^(ys.length-1):=by rw [←Int.pow_add]; congr 1; omega
  rw [h3] at h1
  exact Int.lt_of_lt_of_le h1 (Int.mul_le_mul_of_nonneg_left h2 (Int.le_of_lt (zcr _)))
 zero:=fun j hj=>by
  unfold Go.Proofs.ZW.Wa.rd
  rw [List.getD_eq_getElem?_getD,List.getElem?_replicate]
  split<;>rfl
theorem divide_small (a b:Nat) (w:World) (ha:(T a).size≤137438953472) (hb:(T b).size≤137438953472) (hlt:a<b) :
  Calls Tryz.prog 128 #[.string (T a),.string (T b)] w fun e w'=>e = .returned (.tuple #[.string ⟨#[48]⟩,.string (T a)])∧Below w.heap.size w w':=by
 have HA:=fun W=>zbk (T a) W (T_can a).2.1 (show _≤_ by omega)
 have HB:=fun W=>zbk (T b) W (T_can b).2.1 (show _≤_ by omega)
 rw [zbF] at HA HB
 have hla:=zaY a
 have hlb:=zaY b
 have hxd:=zcc a
 have hyd:=zcc b
 have htx:=lim_top a
 have hty:=lim_top b
 have HD:=Lib.hid (show decide (lv (lim a)<lv (lim b))=true by rw [zbG,zbG,decide_eq_true_iff]; omega)
 generalize lim a=xs at *
 generalize lim b=ys at *
 go_enter Tryz.func128,Tryz.ntmps128
 go_wp2_with fail
 refine (HA _).mono ?_
 rintro e w1 ⟨A1,c1,rfl,ho1,hb1⟩
 go_wp2_with fail
 refine (HB _).mono ?_
 rintro e w2 ⟨A2,c2,rfl,ho2,hb2⟩
 have ho1':=zbQ ho1 hb2
 obtain ⟨hC1,hl1⟩:=own_C ho1'
 obtain ⟨hC2,hl2⟩:=own_C ho2
 have HL:=rless_calls A1 c1 xs A2 c2 ys w2 hC1 hl1 hC2 hl2 hxd hyd htx hty (show _≤_ by omega)
 rw [HD.out] at HL
 have hB:=bthen hb1 hb2
 clear hC1 hC2 ho1 ho2 ho1' HD
 go_wp2_with fail
 refine HL.mono ?_
 rintro e w3 ⟨rfl,hb3⟩
 go_wp2
 go_ret2
 exact ⟨rfl,bthen hB hb3⟩
theorem divide_great (a b:Nat) (w:World) (ha:(T a).size≤137438953472) (hb:(T b).size≤137438953472) (hle:b≤a) (hb0:0<b) :
  Calls Tryz.prog 128 #[.string (T a),.string (T b)] w fun e w'=>e = .returned (.tuple #[.string (T (a/b)),.string (T (a%b))])∧Below w.heap.size w w':=by
 have HA:=fun W=>zbk (T a) W (T_can a).2.1 (show _≤_ by omega)
 have HB:=fun W=>zbk (T b) W (T_can b).2.1 (show _≤_ by omega)
 rw [zbF] at HA HB
 have hla:=zaY a
 have hlb:=zaY b
 have hxd:=zcc a
 have hyd:=zcc b
 have htx:=lim_top a
 have hty:=lim_top b
 have hyl:=lim_ne hb0
 have hlen:=lim_len_le hle
 have HXV:=Lib.hid (zbG a)
 have HYV:=Lib.hid (zbG b)
 have HD:=Lib.hid (show decide (lv (lim a)<lv (lim b))=false by rw [zbG,zbG,decide_eq_false_iff_not]; omega)
 have HQR:Hid (∀ Q R:Int,Q=(a:Int)/(b:Int)∧R=(a:Int)%(b:Int)→Q.toNat=a/b∧R.toNat=a%b):=Lib.hid (by
  rintro Q R ⟨rfl,rfl⟩
  rw [←Int.natCast_ediv,←Int.natCast_emod]
  exact ⟨rfl,rfl⟩)
 have hls1:(T (a/b)).size≤(T a).size:=by rw [zb6,zb6]; exact zbC (Nat.div_le_self a b)
 have hls2:(T (a%b)).size≤(T a).size:=by rw [zb6,zb6]; exact zbC (Nat.mod_le a b)
 have hll1:=zaY (a/b)
 have hll2:=zaY (a%b)
 have hY:0<lv (lim b):=by rw [zbG]; omega
 generalize hxs:lim a=xs at *
 generalize hys:lim b=ys at *
 clear hxs hys
 have hmk:=zbY (P:=Tryz.prog) 92 3 .i64 8 Tryz.underlying92 infoI64 (by decide) xs.length (by omega)
 go_enter Tryz.func128,Tryz.ntmps128
 go_wp2_with fail
 refine (HA _).mono ?_
 rintro e w1 ⟨A1,c1,rfl,ho1,hb1⟩
 obtain ⟨g,rfl,hg0,hg1⟩:=zcI ho1 (by omega)
 go_wp2_with fail
 refine (HB _).mono ?_
 rintro e w2 ⟨A2,c2,rfl,ho2,hb2⟩
 have ho1':=zbQ ho1 hb2
 obtain ⟨hC1,hl1⟩:=own_C ho1'
 obtain ⟨hC2,hl2⟩:=own_C ho2
 have HL:=rless_calls _ c1 xs A2 c2 ys w2 hC1 hl1 hC2 hl2 hxd hyd htx hty (show _≤_ by omega)
 rw [HD.out] at HL
 have hB:=bthen hb1 hb2
 clear hC1 hC2 HD
 go_wp2_with fail
 refine HL.mono ?_
 rintro e w3 ⟨rfl,hb3⟩
 have hs23:=hb2.size
 have hs33:=hb3.size
 have hs11:=hb1.size
 have HS:Hid (QSt w w1 (w3.alloc (.cells (madeCells #[.int .i64 0] xs.length) 3)) g c1 xs.length A2 c2 ys w3.heap.size (lv xs) xs (List.replicate xs.length 0) (xs.length-ys.length+1)):=Lib.hid {
  dv:=DV.start hxd hyd hty hyl hlen
  le:=by omega
  ox:=(zbQ ho1' hb3).alloc _
  oy:=(zbQ ho2 hb3).alloc _
  oq:=zcH w3 w.heap.size 3 .i64 xs.length (by omega) (by omega)
  below:=bthen (bthen hB hb3) (zaa (Below.refl _ _) _) }
 have HQY:=Lib.hid (fun g2 (h:A2=some ⟨g2,0,none⟩)=>show g2≠w3.heap.size by have:=(ho2.lt g2 (by rw [h]; rfl)).2; omega)
 have hgq:w1.heap.size≤w3.heap.size:=by omega
 have hggq:g≠w3.heap.size:=by omega
 clear ho1 ho2 ho1' hb1 hb2 hb3 hB
 have hnmax:xs.length≤274877906944:=by omega
 go_wp2
 clear hmk
 go_loopw [9] (fun vz wr=>∃ (z:Int) (j:Nat) (zs q:List Int),vz = .int .i64 z∧Hid (z=(j:Int)-1) ∧ -1≤z∧z≤274877906944∧Hid (QSt w w1 wr g c1 xs.length A2 c2 ys w3.heap.size (lv xs) zs q j)) (fun vz _=>(intOf vz+1).toNat)
 case atStart=>exact ⟨_,xs.length-ys.length+1,xs,_,by go_num,Lib.hid (by omega),by omega,by omega,HS⟩
 case round =>
  obtain ⟨z,j,zs,q,rfl,HZ,hz0,hz1,HD⟩:=hrel
  have hzl:=HD.out.dv.nx
  have hql:=HD.out.dv.nq
  by_cases hz:0≤z
  ·obtain ⟨up,rfl⟩:=Int.eq_ofNat_of_zero_le hz
   have hj:j=up+1:=by have:=HZ.out; omega
   subst hj
   have hle:=HD.out.le
   have hun:up<xs.length:=by omega
   obtain ⟨ht0,ht9,hlt,hR,-⟩:=HD.out.dv.step hY hun
   have hox:=HD.out.ox
   rw [←hzl] at hox
   obtain ⟨hC1,hl1⟩:=own_C hox
   obtain ⟨hC2,hl2⟩:=own_C HD.out.oy
   have HF:=rfits_calls _ c1 zs A2 c2 ys up wr hC1 hl1 hC2 hl2 HD.out.dv.lx hyd (by omega) (by omega) (by omega) hY hlt
   rw [hzl] at HF
   obtain ⟨t,ht⟩:∃ t,lv (zs.drop up)/lv ys=t:=⟨_,rfl⟩
   rw [ht] at HF ht0 ht9 hR
   have HT:=Lib.hid ht
   have HR:=Lib.hid hR
   have HZL:=Lib.hid hzl
   clear ht hR hC1 hC2 hox hzl hql hlt hl1 hl2
   go_wp2_with fail
   refine HF.mono ?_
   rintro e w5 ⟨rfl,hb5⟩
   have HD5:=Lib.hid (HD.out.below' hb5)
   obtain ⟨hs1,hs2⟩:=zbX HD5.out.oq (up:Int) (by omega) (by omega)
   rw [Int.toNat_natCast] at hs1 hs2
   obtain ⟨old,hold⟩:∃ old,rd q (up:Int)=old:=⟨_,rfl⟩
   rw [hold] at hs1
   clear hold HF hb5
   by_cases htp:0<t
   ·have hset:=HD5.out.set hyl hggq HQY.out up t
    have HTK:=rtake_calls w.heap.size w1.heap.size g c1 xs.length A2 c2 zs ys up t _ hset.1 hset.2 HZL.out HD.out.dv.lx hyd hg1 ⟨ht0,ht9⟩ (by omega) (by omega) HR.out
    have HTK:=Lib.hid HTK
    clear hset
    go_wp2_with fail
    refine HTK.out.mono ?_
    rintro e w7 ⟨zs',rfl,z1,z2,z3,z4,z5⟩
    have HN:=HD5.out.next hY hyl hg0 hg1 hgq HQY.out (by omega) z1 z2 t HT.out z3 z4 z5
    clear z1 z2 z3 z4 z5
    go_wp2
    go_roundw
    case rel=>exact ⟨(up:Int)-1,up,zs',q.set up t,by go_num,Lib.hid rfl,by omega,by omega,HN⟩
    case measure=>simp [intOf]
   ·have ht00:t=0:=by omega
    subst ht00
    have hset:=HD5.out.set hyl hggq HQY.out up 0
    have HN:=HD5.out.next hY hyl hg0 hg1 hgq HQY.out (by omega) HD.out.dv.lx HZL.out 0 HT.out (by rw [Int.zero_mul,Int.mul_zero,Int.sub_zero]) hset.1 (KeepB.refl _ _)
    clear hset
    go_wp2
    go_roundw
    case rel=>exact ⟨(up:Int)-1,up,zs,q.set up 0,by go_num,Lib.hid rfl,by omega,by omega,HN⟩
    case measure=>simp [intOf]
  ·have hj:j=0:=by have:=HZ.out; omega
   subst hj
   obtain ⟨F1,F2⟩:=HD.out.dv.done hY
   obtain ⟨G1,G2⟩:=HQR.out (lv q) (lv zs) (by rw [F1,F2,HXV.out,HYV.out]; exact ⟨rfl,rfl⟩)
   have hox:=HD.out.ox
   have hoq:=HD.out.oq
   have hB:=HD.out.below
   rw [←hzl] at hox
   rw [←hql] at hoq
   obtain ⟨hC1,hl1⟩:=own_C hox
   obtain ⟨hC2,hl2⟩:=own_C hoq
   have HTQ:=zcn _ _ q wr hC2 hl2 HD.out.dv.lq
   have HTX:=fun W (hb:Below wr.heap.size wr W)=>zcn _ _ zs W (Kd.C_below hC1 hb) hl1 HD.out.dv.lx
   rw [G1] at HTQ
   rw [G2] at HTX
   have HC1:=Lib.hid hC1
   have HC2:=Lib.hid hC2
   have HZL:=Lib.hid hzl
   have HQL:=Lib.hid hql
   rw [hql] at HTQ
   rw [hzl] at HTX
   have HTQ:=Lib.hid HTQ
   have HTX:=Lib.hid HTX
   clear hC1 hC2 hox hoq F1 F2 G1 G2 hzl hql HA HB HL
   go_wp2_with fail
   with_reducible refine HTQ.out.mono ?_
   rintro e w5 ⟨m,rfl,hm,htk,rfl⟩
   have hml:m=(lim (a/b)).length:=by rw [←htk,List.length_take]; have:=HQL.out; omega
   have hC3:=Kd.C_take HC2.out (show m≤q.length by have:=HQL.out; omega)
   rw [htk] at hC3
   subst hml
   have HTC:=Lib.hid (c1_text.calls (some ⟨w3.heap.size,0,none⟩) xs.length (lim (a/b)) (T (a/b)) wr hC3 (show _≤_ by have:=HQL.out; omega) (zc2 (a/b) (show _≤_ by omega)))
   clear hC3 htk
   go_wp2_with fail
   with_reducible refine HTC.out.mono ?_
   rintro e w6 ⟨rfl,hb6⟩
   go_wp2_with fail
   with_reducible refine (HTX.out _ hb6).mono ?_
   rintro e w7 ⟨m2,rfl,hm2,htk2,rfl⟩
   have hml2:m2=(lim (a%b)).length:=by rw [←htk2,List.length_take]; have:=HZL.out; omega
   have hC4:=Kd.C_take (Kd.C_below HC1.out hb6) (show m2≤zs.length by have:=HZL.out; omega)
   rw [htk2] at hC4
   subst hml2
   have HTD:=Lib.hid (c1_text.calls (some ⟨g,0,none⟩) c1 (lim (a%b)) (T (a%b)) w6 hC4 (show _≤_ by have:=HZL.out; omega) (zc2 (a%b) (show _≤_ by omega)))
   clear hC4 htk2
   go_wp2_with fail
   with_reducible refine HTD.out.mono ?_
   rintro e w8 ⟨rfl,hb8⟩
   have hB8:=bthen (bthen hB hb6) hb8
   go_wp2
   go_ret2
   exact ⟨rfl,hB8⟩
def c1_Divide.f (a0 a1:ByteArray):Option (ByteArray×ByteArray):=(numP a0).bind fun x=>(numP a1).bind fun y=>if y=0 then none else some (T (x/y),T (x%y))
theorem c1_Divide.calls (a0 a1:ByteArray) (r1 r2:ByteArray) (w:World) (h:c1_Divide.f a0 a1=some (r1,r2)) :
  Calls Tryz.prog 128 #[.string a0,.string a1] w fun e w'=>e = .returned (.tuple #[.string r1,.string r2])∧Below w.heap.size w w':=by
 unfold c1_Divide.f at h
 obtain ⟨x,hx,h3⟩:=Option.bind_eq_some_iff.1 h
 obtain ⟨y,hy,h4⟩:=Option.bind_eq_some_iff.1 h3
 clear h h3
 obtain ⟨rfl,h1⟩:=zdg hx
 obtain ⟨rfl,h2⟩:=zdg hy
 split at h4
 ·cases h4
 ·rename_i hc
  have h:=Option.some.inj h4
  injection h with e1 e2
  subst e1; subst e2
  by_cases hlt:x<y
  ·rw [Nat.div_eq_of_lt hlt,Nat.mod_eq_of_lt hlt,show T 0=⟨#[48]⟩ by unfold T; rw [zbM (by decide)]; rfl]
   exact divide_small x y w h1 h2 hlt
  ·exact divide_great x y w h1 h2 (by omega) (by omega)
def tenR (n:Int):Rat:=if n<0 then (((10:Int)^n.natAbs:Int):Rat)⁻¹ else (((10:Int)^n.natAbs:Int):Rat)
theorem bd_ten (k:Nat):Bd (4*k+1) ((10:Int)^k):=(show Bd 4 (10:Int) by unfold Bd; decide).pow (by decide) k
theorem ten_ne (k:Nat):(((10:Int)^k:Int):Rat)≠0:=fun h=>by
 have h1:=Rat.intCast_eq_zero_iff.1 h
 have h2:(0:Int)<10^k:=Int.pow_pos (by decide)
 omega
theorem Bdr.tenR (n:Int):Bdr (4*n.natAbs+1) (tenR n):=by
 unfold ZP.tenR
 split
 ·exact (Bdr.int (bd_ten _) (by omega)).inv (ten_ne _)
 ·exact Bdr.int (bd_ten _) (by omega)
theorem zb3 (n:Int) (w:World) (h0 : -100000≤n) (h1:n≤100000) :
  Calls Tryz.prog 136 #[.int .i64 n] w fun e w'=>∃ g,e = .returned (.pointer (some ⟨g,0,none⟩))∧w.heap.size≤g∧RatAt w' g (tenR n)∧Below w.heap.size w w':=by
 have hnew:=IntAt.new w 105 (by decide)
 have hba:=zaa (Below.refl w.heap.size w) (.cells #[.bool false,.slice none 0 0] 105)
 have hu105:=Tryz.underlying105
 have hu112:=Tryz.underlying112
 have HBT:=Lib.hid (bd_ten n.natAbs)
 by_cases hn:n<0
 ·have HT:=Lib.hid (show tenR n=(((10:Int)^n.natAbs:Int):Rat)⁻¹ by unfold tenR; rw [if_pos hn])
  go_enter Tryz.func136,Tryz.ntmps136
  go_wp2_with fail
  refine (za7 10 _ (by decide) (by decide)).mono ?_
  rintro e w1 ⟨N1,rfl,hN1,hx1,hb1⟩
  have hz1:=hnew.slot.below hb1
  have hB1:=bthen hba hb1
  have hl1:=hx1.lt
  go_wp2_with fail
  rw [show max n (-n)=((n.natAbs:Nat):Int) by omega]
  refine (za7 (n.natAbs:Int) _ (by omega) (by omega)).mono ?_
  rintro e w2 ⟨N2,rfl,hN2,hx2,hb2⟩
  have hx12:=hx1.below hb2
  have hz2:=hz1.below hb2
  have hB2:=bthen hB1 hb2
  clear hnew hba hb1 hb2 hx1 hz1 hB1
  go_wp2_with fail
  refine (exp_calls w.heap.size 0 N1 0 N2 0 _ 10 n.natAbs _ hz2 hx12 hx2 (show Bd 4 (10:Int) by unfold Bd; decide) (by decide) (by unfold big; omega)).mono ?_
  rintro e w3 ⟨rfl,hp3,hu3⟩
  have hB3:=hu3.new hB2 (Nat.le_refl _)
  have hs3:=hB3.size
  have hnewR:=RatAt.new w3 112 (by decide)
  have hbaR:=zaa (Below.refl w3.heap.size w3) (.cells #[.bool false,.slice none 0 0,.bool false,.slice none 0 0] 112)
  clear hx12 hx2 hz2 hu3
  go_wp2_with fail
  refine (zaV w3.heap.size w.heap.size 0 _ _ hnewR.slot (hp3.below hbaR) HBT.out (by unfold big; omega)).mono ?_
  rintro e w4 ⟨rfl,hz4,hu4⟩
  have hB4:=hu4.new (bthen hB3 hbaR) hs3
  clear hp3 hnewR hbaR hu4
  go_wp2_with fail
  refine (inv_calls w3.heap.size w3.heap.size _ _ hz4.slot hz4 (ten_ne _) (Bdr.int HBT.out (by omega)) (by unfold big; omega)).mono ?_
  rintro e w5 ⟨rfl,hz5,hu5⟩
  go_wp2
  go_ret
  exact ⟨_,rfl,hs3,by rw [HT.out]; exact hz5,hu5.new hB4 hs3⟩
 ·have HT:=Lib.hid (show tenR n=(((10:Int)^n.natAbs:Int):Rat) by unfold tenR; rw [if_neg hn])
  go_enter Tryz.func136,Tryz.ntmps136
  go_wp2_with fail
  refine (za7 10 _ (by decide) (by decide)).mono ?_
  rintro e w1 ⟨N1,rfl,hN1,hx1,hb1⟩
  have hz1:=hnew.slot.below hb1
  have hB1:=bthen hba hb1
  have hl1:=hx1.lt
  go_wp2_with fail
  rw [show max n (-n)=((n.natAbs:Nat):Int) by omega]
  refine (za7 (n.natAbs:Int) _ (by omega) (by omega)).mono ?_
  rintro e w2 ⟨N2,rfl,hN2,hx2,hb2⟩
  have hx12:=hx1.below hb2
  have hz2:=hz1.below hb2
  have hB2:=bthen hB1 hb2
  clear hnew hba hb1 hb2 hx1 hz1 hB1
  go_wp2_with fail
  refine (exp_calls w.heap.size 0 N1 0 N2 0 _ 10 n.natAbs _ hz2 hx12 hx2 (show Bd 4 (10:Int) by unfold Bd; decide) (by decide) (by unfold big; omega)).mono ?_
  rintro e w3 ⟨rfl,hp3,hu3⟩
  have hB3:=hu3.new hB2 (Nat.le_refl _)
  have hs3:=hB3.size
  have hnewR:=RatAt.new w3 112 (by decide)
  have hbaR:=zaa (Below.refl w3.heap.size w3) (.cells #[.bool false,.slice none 0 0,.bool false,.slice none 0 0] 112)
  clear hx12 hx2 hz2 hu3
  go_wp2_with fail
  refine (zaV w3.heap.size w.heap.size 0 _ _ hnewR.slot (hp3.below hbaR) HBT.out (by unfold big; omega)).mono ?_
  rintro e w4 ⟨rfl,hz4,hu4⟩
  have hB4:=hu4.new (bthen hB3 hbaR) hs3
  clear hp3 hnewR hbaR hu4
  go_wp2
  go_ret
  exact ⟨_,rfl,hs3,by rw [HT.out]; exact hz4,hB4⟩
theorem floor_calls (g:Nat) (x:Rat) (w:World) (hx:RatAt w g x) {n:Nat} (hs:Bdr n x) (hn:n≤big) :
  Calls Tryz.prog 123 #[.pointer (some ⟨g,0,none⟩)] w fun e w'=>∃ D,e = .returned (.pointer (some ⟨D,0,none⟩))∧w.heap.size≤D∧IntAt w' D 0 x.floor∧Below w.heap.size w w':=by
 have hu105:=Tryz.underlying105
 rw [Rat.floor_def]
 have hdn:=den_ne x
 go_enter Tryz.func123,Tryz.ntmps123
 have hnew:=IntAt.new w 105 (by decide)
 have hba:=zaa (Below.refl w.heap.size w) (.cells #[.bool false,.slice none 0 0] 105)
 have hd1:Bd n (x.den:Int):=hs.2
 have hn1:Bd n x.num:=hs.1
 go_wp2_with fail
 refine (num_new g x _ (hx.below hba) hs hn).mono ?_
 rintro e w1 ⟨N1,rfl,hN1,hx1,hb1⟩
 have hl1:=hx1.lt
 have hxx1:=(hx.below hba).below hb1
 go_wp2_with fail
 refine (zbB g x _ hxx1 hs hn).mono ?_
 rintro e w2 ⟨N2,rfl,hN2,hx2,hb2⟩
 have hl2:=hx2.lt
 have hs1:=hb1.size
 have hs2:=hb2.size
 simp only [World.size_alloc] at hN1 hs1
 have hz2:=(hnew.slot.below hb1).below hb2
 have hx12:=hx1.below hb2
 have hB2:=bthen (bthen hba hb1) hb2
 have hnewM:=IntAt.new w2 105 (by decide)
 have hbaM:=zaa (Below.refl w2.heap.size w2) (.cells #[.bool false,.slice none 0 0] 105)
 clear hnew hba hx hxx1 hb1 hb2 hx1
 go_wp2_with fail
 refine (divMod_calls w.heap.size 0 N1 0 N2 0 w2.heap.size 0 x.num x.den _ (hz2.below hbaM) hnewM.slot (by omega) (hx12.below hbaM) (hx2.below hbaM) hdn hn1 hd1 hn).mono ?_
 rintro e w3 ⟨rfl,hq3,hm3,w31,hu1,hu2⟩
 have hB3:=hu2.new (hu1.new (bthen hB2 hbaM) (Nat.le_refl _)) (by omega)
 go_wp2
 go_ret
 exact ⟨_,rfl,Nat.le_refl _,hq3,hB3⟩
theorem addA_same_false (b o b1 o1 b2 o2:Nat) (x y:Int) (w:World) (hz:Slot w b o) (hx:IntAt w b1 o1 x) (hy:IntAt w b2 o2 y) {n:Nat} (hs:Bd n x) (ht:Bd n y) (hn:n≤big) (hx0:0≤x) (hy0:0≤y) :
    Calls Tryz.prog 199 #[.pointer (some ⟨b,o,none⟩),.pointer (some ⟨b1,o1,none⟩),.pointer (some ⟨b2,o2,none⟩)] w fun e w'=>e = .returned (.pointer (some ⟨b,o,none⟩))∧IntAt w' b o (x+y)∧Upd w w' b o (o+2):=by
  obtain ⟨neg,A,c,ws,h1,h2,h3,h4⟩:=hx.out
  obtain ⟨neg',A',c',ws',k1,k2,k3,k4⟩:=hy.out
  have hl1:ws.length≤34359738368:=h4.small hs hn
  have hl2:ws'.length≤34359738368:=k4.small ht hn
  have ex:=h4.eq
  have ey:=k4.eq
  clear hs ht
  have hneg:neg=false:=by cases neg; rfl; exact absurd (h4.neg_iff.1 rfl) (by omega)
  have hneg':neg'=false:=by cases neg'; rfl; exact absurd (k4.neg_iff.1 rfl) (by omega)
  subst hneg; subst hneg'
  have hk:sg false (val ws+val ws')=x+y:=by rw [ex,ey]; unfold sg; simp<;>omega
  have HK:=Lib.hid hk
  have LL1:=Lib.hid (show ws.length≤35184372088832 by omega)
  have LL2:=Lib.hid (show ws'.length≤35184372088832 by omega)
  clear ex ey hk
  go_enter Tryz.func199,Tryz.ntmps199
  go_wp2_with fail
  go_quiet (fail)
  generalize hq:w.drewN _=w1
  have HB1:=Lib.hid (show Below w.heap.size w w1 from by subst hq; exact zao _ _)
  have g1:w1.cell? ⟨b1,o1,none⟩=some (.bool false):=by subst hq; exact h1
  have g2:w1.cell? ⟨b1,o1+1,none⟩=some (.slice A ws.length c):=by subst hq; exact h2
  have g3:w1.cell? ⟨b2,o2,none⟩=some (.bool false):=by subst hq; exact k1
  have g4:w1.cell? ⟨b2,o2+1,none⟩=some (.slice A' ws'.length c'):=by subst hq; exact k2
  clear hq h1 h2 k1 k2
  go_wp2_with fail
  go_region_with ((first
      | (go_simp; go_at_call 233; refine (zc3 A c ws A' c' ws' _ (h3.below (bthen HB1.out (zad _))) (k3.below (bthen HB1.out (zad _))) h4.wd k4.wd LL1.out LL2.out).mono ?_; rintro e w2 ⟨A2,c2,zs,rfl,hw2,hz2,hv2,hzl2,hb2⟩; have HV2:=Lib.hid hv2; clear hv2 hzl2; have g1:=(hb2.cell (p:=⟨b1,o1,none⟩) (World.block_lt_of_cell? _ _ g1)).trans g1)
      | (go_simp; go_at_call 187; refine (zaz b o false A2 c2 zs _ (hz.upd (Upd.of_below (bthen (bthen HB1.out (zad _)) hb2) 0 0 0)) hw2 hz2).mono ?_; rintro e w3 ⟨rfl,hx3,hu3⟩)))
  all_goals
    have hfin:sg false (val zs)=x+y:=by rw [HV2.out]; exact HK.out
    rw [hfin] at hx3
    go_wp2
    go_ret
    exact ⟨rfl,hx3,(((Upd.of_below HB1.out _ _ _).trans (Upd.of_below (zad _) _ _ _)).trans (Upd.of_below hb2 _ _ _)).trans hu3⟩
theorem zdp (b o b1 o1 b2 o2:Nat) (x y:Int) (w:World) (hz:Slot w b o) (hx:IntAt w b1 o1 x) (hy:IntAt w b2 o2 y) {n:Nat} (hs:Bd n x) (ht:Bd n y) (hn:n≤big) (hx0:x<0) (hy0:0≤y) (hxy:x+y≤0) :
    Calls Tryz.prog 199 #[.pointer (some ⟨b,o,none⟩),.pointer (some ⟨b1,o1,none⟩),.pointer (some ⟨b2,o2,none⟩)] w fun e w'=>e = .returned (.pointer (some ⟨b,o,none⟩))∧IntAt w' b o (x+y)∧Upd w w' b o (o+2):=by
  obtain ⟨neg,A,c,ws,h1,h2,h3,h4⟩:=hx.out
  obtain ⟨neg',A',c',ws',k1,k2,k3,k4⟩:=hy.out
  have hl1:ws.length≤34359738368:=h4.small hs hn
  have hl2:ws'.length≤34359738368:=k4.small ht hn
  have ex:=h4.eq
  have ey:=k4.eq
  clear hs ht
  have hneg:neg=true:=h4.neg_iff.2 hx0
  have hneg':neg'=false:=by cases neg'; rfl; exact absurd (k4.neg_iff.1 rfl) (by omega)
  subst hneg; subst hneg'
  have hva:=h4.val_eq
  have hvb:=k4.val_eq
  have hk:sg true (val ws-val ws')=x+y:=by rw [ex,ey]; unfold sg; simp<;>omega
  have hle:val ws'≤val ws:=by omega
  have HK:=Lib.hid hk
  have HLE:=Lib.hid hle
  have HLL:=Lib.hid (show ws'.length≤ws.length from zaW h4.wd k4.wd k4.top hle)
  have LL1:=Lib.hid (show ws.length≤35184372088832 by omega)
  have LL2:=Lib.hid (show ws'.length≤35184372088832 by omega)
  clear ex ey hk hle hva hvb
  go_enter Tryz.func199,Tryz.ntmps199
  go_wp2_with fail
  go_quiet (fail)
  generalize hq:w.drewN _=w1
  have HB1:=Lib.hid (show Below w.heap.size w w1 from by subst hq; exact zao _ _)
  have g1:w1.cell? ⟨b1,o1,none⟩=some (.bool true):=by subst hq; exact h1
  have g2:w1.cell? ⟨b1,o1+1,none⟩=some (.slice A ws.length c):=by subst hq; exact h2
  have g3:w1.cell? ⟨b2,o2,none⟩=some (.bool false):=by subst hq; exact k1
  have g4:w1.cell? ⟨b2,o2+1,none⟩=some (.slice A' ws'.length c'):=by subst hq; exact k2
  clear hq h1 h2 k1 k2
  go_wp2_with fail
  go_region_held3 (fun w'=>w'.cell? ⟨b1,o1,none⟩=some (.bool true)∧w'.cell? ⟨b1,o1+1,none⟩=some (.slice A ws.length c)∧w'.cell? ⟨b2,o2,none⟩=some (.bool false)∧w'.cell? ⟨b2,o2+1,none⟩=some (.slice A' ws'.length c'))
    (first|go_keep|exact ⟨g1,g2,g3,g4⟩)
    ((first
      | (go_simp; go_at_call 230; refine (zaX A c ws A' c' ws' _ (h3.below (bthen HB1.out (zad _))) (k3.below (bthen HB1.out (zad _))) h4.wd k4.wd h4.top k4.top).mono ?_; rintro e w2 ⟨r,rfl,hr,hrb,⟨⟨nd,rfl⟩⟩⟩)))
  rename_i hHeld
  generalize hq:w1.drewN _=w2 at hHeld ⊢
  have HB2:=Lib.hid (show Below w1.heap.size w1 w2 from by subst hq; exact zao _ _)
  clear hq g1 g2 g3 g4
  obtain ⟨g1,g2,g3,g4⟩:=hHeld
  have hr0:=zbd hr
  have hr1:0≤r:=by have:=HLE.out; omega
  have HB12:=Lib.hid (bthen HB1.out HB2.out)
  clear hr hr0 HB1 HB2
  have HB1:=HB12
  clear HB12
  go_wp2_with fail
  go_region_with ((first
      | (go_simp; go_at_call 234; refine (zb0 A c ws A' c' ws' _ (h3.below (bthen HB1.out (zad _))) (k3.below (bthen HB1.out (zad _))) h4.wd k4.wd LL1.out HLE.out HLL.out).mono ?_; rintro e w4 ⟨A2,c2,zs,rfl,hw2,hz2,hv2,hzl2,hb2⟩; have HV2:=Lib.hid hv2; clear hv2 hzl2; have gg:=(hb2.cell (p:=⟨b1,o1,none⟩) (World.block_lt_of_cell? _ _ g1)).trans g1)
      | (go_simp; go_at_call 187; refine (zaz b o true A2 c2 zs _ (hz.upd (Upd.of_below (bthen (bthen HB1.out (zad _)) hb2) 0 0 0)) hw2 hz2).mono ?_; rintro e w3 ⟨rfl,hx3,hu3⟩)))
  all_goals
    have hfin:sg true (val zs)=x+y:=by rw [HV2.out]; exact HK.out
    rw [hfin] at hx3
    go_wp2
    go_ret
    exact ⟨rfl,hx3,(((Upd.of_below HB1.out _ _ _).trans (Upd.of_below (zad _) _ _ _)).trans (Upd.of_below hb2 _ _ _)).trans hu3⟩
def halfS (x:Rat):Int:=((x-(x.floor:Rat)).num*(Rat.divInt 1 2).den-(Rat.divInt 1 2).num*(x-(x.floor:Rat)).den).sign
def evenR (x:Rat):Int:=if 0<halfS x∨(halfS x=0∧x.floor.natAbs%2=1) then x.floor+1 else x.floor
theorem bd_floor {x:Rat} {n:Nat} (h:Bdr n x):Bd n x.floor:=by
 rw [Rat.floor_def]
 exact h.1.le (Int.natAbs_ediv_le_natAbs _ _)
theorem Bdr.half:Bdr 2 (Rat.divInt 1 2):=by
 refine Bdr.divInt (by decide) ?_ ?_<;>(unfold Bd; decide)
theorem zdn (b N:Nat) (x:Int) (w:World) (hx:IntAt w b 0 x) (hy:IntAt w N 0 1) {n:Nat} (hs:Bd n x) (hn0:0<n) (hn:n≤big) :
  Calls Tryz.prog 199 #[.pointer (some ⟨b,0,none⟩),.pointer (some ⟨b,0,none⟩),.pointer (some ⟨N,0,none⟩)] w fun e w'=>e = .returned (.pointer (some ⟨b,0,none⟩))∧IntAt w' b 0 (x+1)∧Upd w w' b 0 2:=by
 have h1:Bd n (1:Int):=by
  unfold Bd
  have:2^1≤2^n:=Nat.pow_le_pow_right (by decide) hn0
  have:(1:Int).natAbs=1:=rfl
  omega
 by_cases h:0≤x
 ·exact addA_same_false b 0 b 0 N 0 x 1 w hx.slot hx hy hs h1 hn h (by decide)
 ·exact zdp b 0 b 0 N 0 x 1 w hx.slot hx hy hs h1 hn (by omega) (by decide) (by omega)
theorem even_calls (g:Nat) (x:Rat) (w:World) (hx:RatAt w g x) {n:Nat} (hs:Bdr n x) (hn0:0<n) (hn:4*n+10≤big) :
  Calls Tryz.prog 186 #[.pointer (some ⟨g,0,none⟩)] w fun e w'=>∃ D,e = .returned (.pointer (some ⟨D,0,none⟩))∧w.heap.size≤D∧IntAt w' D 0 (evenR x)∧Below w.heap.size w w':=by
 have hu112:=Tryz.underlying112
 have hnb:n≤big:=by omega
 have hbf:=bd_floor hs
 have hlx:=hx.lt
 have HE:=Lib.hid (show evenR x=if 0<halfS x∨(halfS x=0∧x.floor.natAbs%2=1) then x.floor+1 else x.floor from rfl)
 have HH:=Lib.hid (show halfS x=((x-(x.floor:Rat)).num*(Rat.divInt 1 2).den-(Rat.divInt 1 2).num*(x-(x.floor:Rat)).den).sign from rfl)
 go_enter Tryz.func186,Tryz.ntmps186
 go_wp2_with fail
 refine (floor_calls g x _ hx hs hnb).mono ?_
 rintro e w1 ⟨D,rfl,hD,hq1,hb1⟩
 have hx1:=hx.below hb1
 have hlq:=hq1.lt
 have hs1:=hb1.size
 have hbA:=bthen (zaa (Below.refl w1.heap.size w1) (.cells #[.bool false,.slice none 0 0,.bool false,.slice none 0 0] 112)) (zaa (Below.refl _ _) (.cells #[.bool false,.slice none 0 0,.bool false,.slice none 0 0] 112))
 have hr2:RatAt ((w1.alloc (.cells #[.bool false,.slice none 0 0,.bool false,.slice none 0 0] 112)).alloc (.cells #[.bool false,.slice none 0 0,.bool false,.slice none 0 0] 112)) (w1.heap.size+1) 0:=by
  have h:=RatAt.new (w1.alloc (.cells #[.bool false,.slice none 0 0,.bool false,.slice none 0 0] 112)) 112 (by decide)
  rwa [World.size_alloc] at h
 have hr1:=(RatAt.new w1 112 (by decide)).slot.below (zaa (Below.refl (w1.alloc (.cells #[.bool false,.slice none 0 0,.bool false,.slice none 0 0] 112)).heap.size (w1.alloc (.cells #[.bool false,.slice none 0 0,.bool false,.slice none 0 0] 112))) (.cells #[.bool false,.slice none 0 0,.bool false,.slice none 0 0] 112))
 have hqA:=hq1.below hbA
 have hxA:=hx1.below hbA
 have hBA:=bthen hb1 hbA
 clear hq1 hx1 hb1 hbA hx
 go_wp2_with fail
 refine (zaV (w1.heap.size+1) D 0 x.floor _ hr2.slot hqA hbf hnb).mono ?_
 rintro e w2 ⟨rfl,hf2,hu2⟩
 have hq2:=hqA.upd hu2 (Or.inl (by omega))
 have hx2:=hxA.upd hu2 (by omega)
 have hr2':=hr1.upd hu2
 have hB2:=hu2.new hBA (by omega)
 clear hqA hxA hr1 hr2 hu2 hBA
 have hsub:=hs.sub (Bdr.int hbf hn0)
 have HSUB:=Lib.hid hsub
 clear hsub
 go_wp2_with fail
 refine (rsub_calls w1.heap.size g (w1.heap.size+1) x (x.floor:Rat) _ hr2' hx2 hf2 hs (Bdr.int hbf hn0) (by omega)).mono ?_
 rintro e w3 ⟨rfl,hd3,hu3⟩
 have hq3:=hq2.upd hu3 (Or.inl (by omega))
 have hB3:=hu3.new hB2 hs1
 clear hq2 hx2 hf2 hr2' hu3 hB2
 go_wp2_with fail
 refine (newRat_calls 1 2 _ (by decide) (by decide) (by decide) (by decide) (by decide)).mono ?_
 rintro e w4 ⟨N,rfl,hN,hh4,hb4⟩
 have hd4:=hd3.below hb4
 have hq4:=hq3.below hb4
 have hB4:=bthen hB3 hb4
 clear hd3 hq3 hB3 hb4
 go_wp2_with fail
 refine (rcmp_calls w1.heap.size N _ _ _ hd4 hh4 HSUB.out Bdr.half (by omega)).mono ?_
 rintro e w5 ⟨rfl,hb5⟩
 have hq5:=hq4.below hb5
 have hB5:=bthen hB4 hb5
 rw [←HH.out]
 clear hd4 hh4 hq4 hB4 hb5 HH
 by_cases h1:0<halfS x
 ·have HV:=Lib.hid (show evenR x=x.floor+1 by rw [HE.out,if_pos (Or.inl h1)])
  clear HE
  go_wp2_with fail
  refine (za7 1 _ (by decide) (by decide)).mono ?_
  rintro e w7 ⟨N7,rfl,hN7,hn7,hb7⟩
  have hq7:=hq5.below hb7
  go_wp2_with fail
  refine (zdn D N7 x.floor _ hq7 hn7 hbf hn0 hnb).mono ?_
  rintro e w8 ⟨rfl,hq8,hu8⟩
  have hB8:=hu8.new (bthen hB5 hb7) hD
  go_wp2
  go_ret
  exact ⟨_,rfl,hD,by rw [HV.out]; exact hq8,hB8⟩
 ·by_cases h2:halfS x=0
  ·rw [h2]
   by_cases h3:x.floor.natAbs%2=1
   ·have HV:=Lib.hid (show evenR x=x.floor+1 by rw [HE.out,if_pos (Or.inr ⟨h2,h3⟩)])
    clear HE h1 h2
    go_wp2_with fail
    refine (bit_calls D 0 x.floor 0 _ hq5 (by omega) hbf hnb).mono ?_
    rintro e w6 ⟨rfl,⟨nd,hw6⟩⟩
    have hb6:Below w5.heap.size w5 w6:=by subst hw6; exact zao _ _
    have hq6:=hq5.below hb6
    have hB6:=bthen hB5 hb6
    rw [show x.floor.natAbs/2^0%2=1 by rw [Nat.pow_zero,Nat.div_one]; exact h3]
    clear hw6 h3
    go_wp2_with fail
    refine (za7 1 _ (by decide) (by decide)).mono ?_
    rintro e w7 ⟨N7,rfl,hN7,hn7,hb7⟩
    have hq7:=hq6.below hb7
    go_wp2_with fail
    refine (zdn D N7 x.floor _ hq7 hn7 hbf hn0 hnb).mono ?_
    rintro e w8 ⟨rfl,hq8,hu8⟩
    have hB8:=hu8.new (bthen hB6 hb7) hD
    go_wp2
    go_ret
    exact ⟨_,rfl,hD,by rw [HV.out]; exact hq8,hB8⟩
   ·have HV:=Lib.hid (show evenR x=x.floor by rw [HE.out,if_neg (fun h=>h.elim h1 (fun h=>h3 h.2))])
    clear HE h1 h2
    go_wp2_with fail
    refine (bit_calls D 0 x.floor 0 _ hq5 (by omega) hbf hnb).mono ?_
    rintro e w6 ⟨rfl,⟨nd,hw6⟩⟩
    have hb6:Below w5.heap.size w5 w6:=by subst hw6; exact zao _ _
    have hq6:=hq5.below hb6
    have hB6:=bthen hB5 hb6
    rw [show x.floor.natAbs/2^0%2=0 by rw [Nat.pow_zero,Nat.div_one]; omega]
    clear hw6 h3
    go_wp2
    go_ret
    exact ⟨_,rfl,hD,by rw [HV.out]; exact hq6,hB6⟩
  ·have hne:(halfS x == 0)=false:=beq_eq_false_iff_ne.2 h2
   have HV:=Lib.hid (show evenR x=x.floor by rw [HE.out,if_neg (fun h=>h.elim h1 (fun h=>h2 h.1))])
   clear HE h2
   go_wp2
   go_ret
   exact ⟨_,rfl,hD,by rw [HV.out]; exact hq5,hB5⟩
theorem steps_calls (g:Nat) (x:Rat) (p:Int) (w:World) (hx:RatAt w g x) {n:Nat} (hs:Bdr n x) (hn0:0<n) (h0 : -10000≤p) (h1:p≤10000) (hn:n≤1000000) :
  Calls Tryz.prog 102 #[.pointer (some ⟨g,0,none⟩),.int .i64 p] w fun e w'=>∃ D,e = .returned (.pointer (some ⟨D,0,none⟩))∧w.heap.size≤D∧IntAt w' D 0 (evenR (x*tenR p))∧Below w.heap.size w w':=by
 have hu112:=Tryz.underlying112
 have hnew:=RatAt.new w 112 (by decide)
 have hba:=zaa (Below.refl w.heap.size w) (.cells #[.bool false,.slice none 0 0,.bool false,.slice none 0 0] 112)
 have htn:=Bdr.tenR p
 have HBM:=Lib.hid (hs.mul htn)
 have HTN:=Lib.hid htn
 have hpn:p.natAbs≤10000:=by omega
 clear htn
 go_enter Tryz.func102,Tryz.ntmps102
 go_wp2_with fail
 refine (zb3 p _ (by omega) (by omega)).mono ?_
 rintro e w1 ⟨G,rfl,hG,ht1,hb1⟩
 go_wp2_with fail
 refine (zbj w.heap.size g G x _ _ (hnew.slot.below hb1) ((hx.below hba).below hb1) ht1 hs HTN.out (by unfold big; omega)).mono ?_
 rintro e w2 ⟨rfl,hm2,hu2⟩
 have hB2:=hu2.new (bthen hba hb1) (Nat.le_refl _)
 have hs2:=hB2.size
 clear hnew hba hx ht1 hu2
 go_wp2_with fail
 refine (even_calls w.heap.size _ _ hm2 HBM.out (by omega) (by unfold big; omega)).mono ?_
 rintro e w3 ⟨D,rfl,hD,hq3,hb3⟩
 go_wp2
 go_ret
 exact ⟨_,rfl,Nat.le_trans hs2 hD,hq3,bthen hB2 hb3⟩
end Go.Proofs.ZP
end
