/- Texts under the proof, joined by a program (prune.py): P24, HShift, HGuess. -/
import Derived.Test.YtocfocjfdpegmaaGreatDoorCRatParses02
import Derived.Test.YtocfocjfdpegmaaGreatDoorCRatParses03
import Derived.Test.YtocfocjfdpegmaaGreatDoorCRatParses01
set_option linter.unusedVariables false
set_option linter.unusedSimpArgs false
set_option exponentiation.threshold 20001
set_option maxHeartbeats 8000000
set_option maxRecDepth 100000
section
namespace Go.Proofs.ZP
open Go.RowKit Go.Proofs.ZW.Wa Go.Proofs.ZW.Wb Go.Proofs.ZW.Wc
attribute [local go_sem] zaH zaF zaW zaV zaA zaz zaG zaE
def ample_right.l0:Nat→List Int→Int→List Int→List Int→Int→Int→Option (List Int)
 | 0,_,_,_,_,_,_=>none
 | k+1,x0,x1,x5,x12,x13,x14=>if x14<x13 then (if 0≤x14 then (if x14<(x12.length:Int) then (if (wrap64 (x14+1))<(x0.length:Int) then (if 0≤(wrap64 (x14+1)) then (if 0≤x1 then (if x14<(x5.length:Int) then (ample_right.l0 k x0 x1 (x5.set (x14:Int).toNat ((shr .u64 (Go.bits .or .u64 (IntKind.u64.wrap (rd x12 x14)) (IntKind.u64.wrap ((IntKind.u64.wrap (rd x0 (wrap64 (x14+1))))*4294967296))) x1)%4294967296)) x12 x13 (wrap64 (x14+1))) else (none)) else (none)) else (none)) else (if 0≤x1 then (if x14<(x5.length:Int) then (ample_right.l0 k x0 x1 (x5.set (x14:Int).toNat ((shr .u64 (IntKind.u64.wrap (rd x12 x14)) x1)%4294967296)) x12 x13 (wrap64 (x14+1))) else (none)) else (none))) else (none)) else (none)) else (some x5)
def ample_right.f (k:Nat) (l0:List Int) (a1:Int):Option (List Int):=if 0≤(l0.length:Int) then (if ((l0.length:Int):Int).toNat≤70368744177664 then (ample_right.l0 k l0 a1 (List.replicate ((l0.length:Int):Int).toNat 0) l0 (l0.length:Int) 0) else (none)) else (none)
theorem ample_right.calls (k : Nat) (A0 : Option Addr) (c0 : Nat) (l0 : List Int) (a1 : Int) (r : List Int) (w : World) (hr0 : Kd.C (Kd.int .u32) w A0 l0.length l0) (hc0 : l0.length ≤ c0) (h : ample_right.f k l0 a1 = some r) :
  Calls Tryz.prog 244 #[.slice A0 l0.length c0,.int .i64 a1] w fun e w'=>∃ v0_:Value,e = .returned (v0_)∧Kd.R (Kd.int .u32) 144 w' w.heap.size (fun _=>True) v0_ r∧Below w.heap.size w w':=by
 have HR0:=Aside0.mk hr0
 have HC0:=Aside0.mk hc0
 clear hr0 hc0
 have HB:=Aside0.mk (Below.refl w.heap.size w)
 have H:(if 0≤(l0.length:Int) then (if ((l0.length:Int):Int).toNat≤70368744177664 then (ample_right.l0 k l0 a1 (List.replicate ((l0.length:Int):Int).toNat 0) l0 (l0.length:Int) 0) else (none)) else (none))=some r:=h
 clear h
 by_cases c3:0≤(l0.length:Int)
 ·rw [if_pos c3] at H
  have c3b0:=eq_true c3
  have c3b1:decide (0≤(l0.length:Int))=true:=decide_eq_true c3
  clear c3
  by_cases c4:((l0.length:Int):Int).toNat≤70368744177664
  ·rw [if_pos c4] at H
   have c4b0:=eq_true c4
   have c4b1:decide (((l0.length:Int):Int).toNat≤70368744177664)=true:=decide_eq_true c4
   clear c4
   obtain ⟨y150,hy150⟩:∃ y_:List Int,y_=(List.replicate ((l0.length:Int):Int).toNat 0):=⟨_,rfl⟩
   replace H:(ample_right.l0 k l0 a1 y150 l0 (l0.length:Int) 0)=some r:=by first|(rw [hy150]; with_reducible exact H)|(have H2_:=(Option.bind_some _ _).symm.trans H; rw [hy150]; with_reducible exact H2_)|(have H2_:=(Option.bind_some _ _).symm.trans H; with_reducible exact H2_)|with_reducible exact H|(rw [hy150]; exact H)|exact H
   have Ny150:=Aside0.mk hy150
   clear hy150
   have H':=Aside0.mk H
   clear H
   go_enter Tryz.func244,Tryz.ntmps244
   go_wp2_with (first|((with_reducible refine za4 (N:=11) rfl ?_); refine Kd.R_make (Kd.int .u32) _ 144 rfl (N:=11) rfl 68 _ _ rfl (l0.length:Int) rfl rfl Tryz.underlying68 (.int .u32 0) 4 info144 rfl (by decide) (by omega) 0 (ok:=fun _=>True) (okp:=fun _=>True) rfl (fun _ hk=>hk) trivial (of_decide_eq_true (by first|(with_reducible assumption)|assumption)) (Nat.le_trans (Nat.mul_le_mul_right _ (of_decide_eq_true (by first|(with_reducible assumption)|assumption):(l0.length:Int).toNat≤70368744177664)) (by omega)) (Below.refl _ _) (Nat.le_refl _) ?_; intro v151 w5 ho6 hb hg_ hnew_; clear hg_ hnew_; (first|rw [←Ny150.out] at ho6|(simp only [Int.reduceToNat] at ho6; rw [←Ny150.out] at ho6)); have n0_:=Aside0.mk (Kd.R_lower ho6 (zaq (by repeat (first|(with_reducible first|exact HB.out|apply zaa|apply zab|apply zae)|exact HB.out)))); have n1_:=Aside0.mk (zar (by repeat (first|(with_reducible first|exact HB.out|apply zaa|apply zab|apply zae)|exact HB.out)) hb); clear HB; have HO152:=n0_; have HB:=n1_; clear n0_ n1_; clear hb ho6))
   go_loopg [14] k (fun kq v14 w'=>∃ (x5_1:List Int) (x14_1:Int),v14 = .int .i64 x14_1∧Aside0 (ample_right.l0 kq l0 a1 x5_1 l0 (l0.length:Int) x14_1=some r)∧Aside0 (kq≤k)∧Aside0 (Kd.R (Kd.int .u32) 144 w' w.heap.size (fun _=>True) v151 x5_1)∧Aside0 (Below w.heap.size w w'))
   case atStart=>exact ⟨(y150),(0),(by first|rfl|(simp; done)|(simp [*]; done)),H',⟨Nat.le_refl _⟩,⟨by (with_reducible repeat (first|apply Kd.R_alloc|apply Kd.R_drewN|apply Kd.R_drew)); exact HO152.out⟩,⟨by repeat (first|(with_reducible first|exact HB.out|apply zaa|apply zab|apply zae)|exact HB.out)⟩⟩
   case round =>
    clear H'
    try clear c2
    try clear p2
    try clear c3
    try clear c3b0
    try clear c3b1
    try clear c4
    try clear c4b0
    try clear c4b1
    obtain ⟨x5_1,x14_1,rfl,HA,HK1,HO_5,HB⟩:=hrel
    cases gk with
    | zero=>exact absurd HA.out (by simp [ample_right.l0])
    | succ k1 =>
     have H:=HA.out
     clear HA
     simp only [ample_right.l0] at H
     by_cases c7:x14_1<(l0.length:Int)
     ·rw [if_pos c7] at H
      have c7b0:decide (x14_1<(l0.length:Int))=true:=decide_eq_true c7
      clear c7
      by_cases c8:0≤x14_1
      ·rw [if_pos c8] at H
       have c8b0:decide (0≤x14_1)=true:=decide_eq_true c8
       clear c8
       by_cases c9:x14_1<(l0.length:Int)
       ·rw [if_pos c9] at H
        have c9b0:decide (x14_1<(l0.length:Int))=true:=decide_eq_true c9
        clear c9
        by_cases c10:(wrap64 (x14_1+1))<(l0.length:Int)
        ·rw [if_pos c10] at H
         have c10b0:decide ((wrap64 (x14_1+1))<(l0.length:Int))=true:=decide_eq_true c10
         clear c10
         obtain ⟨ji11,hji11⟩:∃ j_:Int,(wrap64 (x14_1+1))=j_:=⟨_,rfl⟩
         replace H:(if 0≤(ji11) then (if 0≤a1 then (if x14_1<(x5_1.length:Int) then (ample_right.l0 k1 l0 a1 (x5_1.set (x14_1:Int).toNat ((shr .u64 (Go.bits .or .u64 (IntKind.u64.wrap (rd l0 x14_1)) (IntKind.u64.wrap ((IntKind.u64.wrap (rd l0 (ji11)))*4294967296))) a1)%4294967296)) l0 (l0.length:Int) ji11) else (none)) else (none)) else (none))=some r:=by first|(rw [hji11] at H; exact H)|(simp only [hji11] at H ⊢; exact H)
         (try rw [hji11] at c10b0)
         have hji11w:(IntKind.i64.wrap (x14_1+1))=ji11:=(i64_w _).trans hji11
         by_cases c12:0≤(ji11)
         ·rw [if_pos c12] at H
          have c12b0:decide (0≤(ji11))=true:=decide_eq_true c12
          clear c12
          by_cases c13:0≤a1
          ·rw [if_pos c13] at H
           have c13b0:=eq_true c13
           have c13b1:decide (0≤a1)=true:=decide_eq_true c13
           clear c13
           obtain ⟨ji14,hji14⟩:∃ j_:Int,(shr .u64 (Go.bits .or .u64 (IntKind.u64.wrap (rd l0 x14_1)) (IntKind.u64.wrap ((IntKind.u64.wrap (rd l0 (ji11)))*4294967296))) a1)=j_:=⟨_,rfl⟩
           replace H:(if x14_1<(x5_1.length:Int) then (ample_right.l0 k1 l0 a1 (x5_1.set (x14_1:Int).toNat ((ji14)%4294967296)) l0 (l0.length:Int) ji11) else (none))=some r:=by first|(rw [hji14] at H; exact H)|(simp only [hji14] at H ⊢; exact H)
           have hji14_:((Go.bits .or .u64 (IntKind.u64.wrap (rd l0 x14_1)) (IntKind.u64.wrap ((IntKind.u64.wrap (rd l0 (ji11)))*4294967296)))/2^min a1.toNat 64)=ji14:=hji14
           have hji14z:a1≤64→((Go.bits .or .u64 (IntKind.u64.wrap (rd l0 x14_1)) (IntKind.u64.wrap ((IntKind.u64.wrap (rd l0 (ji11)))*4294967296)))/2^a1.toNat)=ji14:=shr_small hji14
           by_cases c15:x14_1<(x5_1.length:Int)
           ·rw [if_pos c15] at H
            have c15b0:decide (x14_1<(x5_1.length:Int))=true:=decide_eq_true c15
            clear c15
            obtain ⟨y155,hy155⟩:∃ y_:List Int,y_=(x5_1.set (x14_1:Int).toNat ((ji14)%4294967296)):=⟨_,rfl⟩
            replace H:(ample_right.l0 k1 l0 a1 y155 l0 (l0.length:Int) ji11)=some r:=by first|(rw [hy155]; with_reducible exact H)|(have H2_:=(Option.bind_some _ _).symm.trans H; rw [hy155]; with_reducible exact H2_)|(have H2_:=(Option.bind_some _ _).symm.trans H; with_reducible exact H2_)|with_reducible exact H|(rw [hy155]; exact H)|exact H
            have Ny155:=Aside0.mk hy155
            clear hy155
            have H':=Aside0.mk H
            clear H
            have p153:0≤(x14_1:Int):=of_decide_eq_true (by first|(with_reducible assumption)|assumption)
            have q153:x14_1<(l0.length:Int):=of_decide_eq_true (by first|(with_reducible assumption)|assumption)
            obtain ⟨ad153,e153,hx153_0⟩:=Kd.at_int HR0.out x14_1 p153 q153
            cases e153
            replace hx153_0:=(HB.out.cell (World.block_lt_of_cell? w _ hx153_0)).trans hx153_0
            replace p153:=eq_true p153
            replace q153:=eq_true q153
            have p154:0≤((ji11):Int):=of_decide_eq_true (by first|(with_reducible assumption)|assumption)
            have q154:(ji11)<(l0.length:Int):=of_decide_eq_true (by first|(with_reducible assumption)|assumption)
            obtain ⟨ad154,e154,hx154_0⟩:=Kd.at_int HR0.out (ji11) p154 q154
            obtain rfl:ad153=ad154:=(by injection e154)
            replace hx154_0:=(HB.out.cell (World.block_lt_of_cell? w _ hx154_0)).trans hx154_0
            replace p154:=eq_true p154
            replace q154:=eq_true q154
            have p16:0≤(x14_1:Int):=of_decide_eq_true (by first|(with_reducible assumption)|assumption)
            have q16:(x14_1:Int)<((x5_1.length:Int):Int):=of_decide_eq_true (by first|(with_reducible assumption)|assumption)
            obtain ⟨go16,co16,eo16,gb16,gl16,cl16,HG16⟩:=Kd.R_form HO_5.out (by omega)
            (first|cases eo16|(injection eo16 with ea_ en_ ec_; (first|subst ea_|(injection ea_ with ea_; subst ea_)); subst ec_; clear en_))
            have GB16:=Aside0.mk gb16
            have GG16:=Aside0.mk HG16
            clear gb16 gl16 HG16
            obtain ⟨hx16_0,hf16_0⟩:=Kd.R_celln 0 HO_5.out (x14_1:Int) p16 q16
            replace p16:=eq_true p16
            replace q16:=eq_true q16
            have HP17:=Kd.R_putg HO_5.out (x14_1:Int) ((ji14)%4294967296)
            go_wp2_with (first|((with_reducible refine za3 (t:=144) (p:=41) rfl ?_); refine zaU (t:=144) (p:=41) (v:=?vo_w18) (w1:=(wr.setCell ⟨go16,(x14_1:Int).toNat,none⟩ (.int .u32 ((ji14)%4294967296)))) ?hg ?ho ?hn ?hr ?_; (case ho=>rfl); (case hg=>rfl); (case hn=>rfl); (case hr=>first|(go_simp; done)|(go_simp; rfl)); intro w18 hw; have hg:wr.grownBy w18 (some go16):=(by rw [hw]; exact HP17.2); have hp_:Kd.R (Kd.int .u32) 144 w18 w.heap.size (fun _=>True) (.slice (some ⟨go16,0,none⟩) x5_1.length co16) y155:=(by rw [hw,Ny155.out]; exact HP17.1); clear HP17; have n0_:=Aside0.mk (hp_); have n1_:=Aside0.mk ((by rw [hw]; exact zag (HB.out) GB16.out:Below w.heap.size w w18)); clear HO_5; clear HB; have HO_5:=n0_; have HB:=n1_; clear n0_ n1_; clear hg hw hp_))
            go_roundg k1
            case measure=>have:=HK1.out; omega
            case rel=>exact ⟨(y155),(ji11),(by first|rfl|(simp; done)|(simp only [←hji11]<;>(first|rfl|simp))|(simp [*]; done)),H',⟨by have:=HK1.out; omega⟩,⟨by (with_reducible repeat (first|apply Kd.R_alloc|apply Kd.R_drewN|apply Kd.R_drew)); exact HO_5.out⟩,⟨by repeat (first|(with_reducible first|exact HB.out|apply zaa|apply zab|apply zae)|exact HB.out)⟩⟩
           ·rw [if_neg c15] at H
            exact absurd H (by simp)
          ·rw [if_neg c13] at H
           exact absurd H (by simp)
         ·rw [if_neg c12] at H
          exact absurd H (by simp)
        ·rw [if_neg c10] at H
         have c10b0:decide ((wrap64 (x14_1+1))<(l0.length:Int))=false:=decide_eq_false c10
         clear c10
         by_cases c19:0≤a1
         ·rw [if_pos c19] at H
          have c19b0:=eq_true c19
          have c19b1:decide (0≤a1)=true:=decide_eq_true c19
          clear c19
          obtain ⟨ji20,hji20⟩:∃ j_:Int,(shr .u64 (IntKind.u64.wrap (rd l0 x14_1)) a1)=j_:=⟨_,rfl⟩
          replace H:(if x14_1<(x5_1.length:Int) then (ample_right.l0 k1 l0 a1 (x5_1.set (x14_1:Int).toNat ((ji20)%4294967296)) l0 (l0.length:Int) (wrap64 (x14_1+1))) else (none))=some r:=by first|(rw [hji20] at H; exact H)|(simp only [hji20] at H ⊢; exact H)
          have hji20_:((IntKind.u64.wrap (rd l0 x14_1))/2^min a1.toNat 64)=ji20:=hji20
          have hji20z:a1≤64→((IntKind.u64.wrap (rd l0 x14_1))/2^a1.toNat)=ji20:=shr_small hji20
          by_cases c21:x14_1<(x5_1.length:Int)
          ·rw [if_pos c21] at H
           have c21b0:decide (x14_1<(x5_1.length:Int))=true:=decide_eq_true c21
           clear c21
           obtain ⟨y156,hy156⟩:∃ y_:List Int,y_=(x5_1.set (x14_1:Int).toNat ((ji20)%4294967296)):=⟨_,rfl⟩
           replace H:(ample_right.l0 k1 l0 a1 y156 l0 (l0.length:Int) (wrap64 (x14_1+1)))=some r:=by first|(rw [hy156]; with_reducible exact H)|(have H2_:=(Option.bind_some _ _).symm.trans H; rw [hy156]; with_reducible exact H2_)|(have H2_:=(Option.bind_some _ _).symm.trans H; with_reducible exact H2_)|with_reducible exact H|(rw [hy156]; exact H)|exact H
           have Ny156:=Aside0.mk hy156
           clear hy156
           have H':=Aside0.mk H
           clear H
           have p153:0≤(x14_1:Int):=of_decide_eq_true (by first|(with_reducible assumption)|assumption)
           have q153:x14_1<(l0.length:Int):=of_decide_eq_true (by first|(with_reducible assumption)|assumption)
           obtain ⟨ad153,e153,hx153_0⟩:=Kd.at_int HR0.out x14_1 p153 q153
           cases e153
           replace hx153_0:=(HB.out.cell (World.block_lt_of_cell? w _ hx153_0)).trans hx153_0
           replace p153:=eq_true p153
           replace q153:=eq_true q153
           have p22:0≤(x14_1:Int):=of_decide_eq_true (by first|(with_reducible assumption)|assumption)
           have q22:(x14_1:Int)<((x5_1.length:Int):Int):=of_decide_eq_true (by first|(with_reducible assumption)|assumption)
           obtain ⟨go22,co22,eo22,gb22,gl22,cl22,HG22⟩:=Kd.R_form HO_5.out (by omega)
           (first|cases eo22|(injection eo22 with ea_ en_ ec_; (first|subst ea_|(injection ea_ with ea_; subst ea_)); subst ec_; clear en_))
           have GB22:=Aside0.mk gb22
           have GG22:=Aside0.mk HG22
           clear gb22 gl22 HG22
           obtain ⟨hx22_0,hf22_0⟩:=Kd.R_celln 0 HO_5.out (x14_1:Int) p22 q22
           replace p22:=eq_true p22
           replace q22:=eq_true q22
           have HP23:=Kd.R_putg HO_5.out (x14_1:Int) ((ji20)%4294967296)
           go_wp2_with (first|((with_reducible refine za3 (t:=144) (p:=41) rfl ?_); refine zaU (t:=144) (p:=41) (v:=?vo_w24) (w1:=(wr.setCell ⟨go22,(x14_1:Int).toNat,none⟩ (.int .u32 ((ji20)%4294967296)))) ?hg ?ho ?hn ?hr ?_; (case ho=>rfl); (case hg=>rfl); (case hn=>rfl); (case hr=>first|(go_simp; done)|(go_simp; rfl)); intro w24 hw; have hg:wr.grownBy w24 (some go22):=(by rw [hw]; exact HP23.2); have hp_:Kd.R (Kd.int .u32) 144 w24 w.heap.size (fun _=>True) (.slice (some ⟨go22,0,none⟩) x5_1.length co22) y156:=(by rw [hw,Ny156.out]; exact HP23.1); clear HP23; have n0_:=Aside0.mk (hp_); have n1_:=Aside0.mk ((by rw [hw]; exact zag (HB.out) GB22.out:Below w.heap.size w w24)); clear HO_5; clear HB; have HO_5:=n0_; have HB:=n1_; clear n0_ n1_; clear hg hw hp_))
           go_roundg k1
           case measure=>have:=HK1.out; omega
           case rel=>exact ⟨(y156),(wrap64 (x14_1+1)),(by first|rfl|(simp; done)|(simp [*]; done)),H',⟨by have:=HK1.out; omega⟩,⟨by (with_reducible repeat (first|apply Kd.R_alloc|apply Kd.R_drewN|apply Kd.R_drew)); exact HO_5.out⟩,⟨by repeat (first|(with_reducible first|exact HB.out|apply zaa|apply zab|apply zae)|exact HB.out)⟩⟩
          ·rw [if_neg c21] at H
           exact absurd H (by simp)
         ·rw [if_neg c19] at H
          exact absurd H (by simp)
       ·rw [if_neg c9] at H
        exact absurd H (by simp)
      ·rw [if_neg c8] at H
       exact absurd H (by simp)
     ·rw [if_neg c7] at H
      have c7b0:decide (x14_1<(l0.length:Int))=false:=decide_eq_false c7
      clear c7
      obtain rfl:=Option.some.inj H
      go_wp2
      go_ret
      exact ⟨_,by first|rfl|(simp [zak,zaj]<;>rfl)|(simp [*,zak,zaj]<;>rfl),by (with_reducible repeat (first|apply Kd.R_alloc|apply Kd.R_drewN|apply Kd.R_drew)); exact HO_5.out,by repeat (first|(with_reducible first|exact HB.out|apply zaa|apply zab|apply zae)|exact HB.out)⟩
  ·rw [if_neg c4] at H
   exact absurd H (by simp)
 ·rw [if_neg c3] at H
  exact absurd H (by simp)
end Go.Proofs.ZP
end
section
namespace Go.Proofs.ZP
open Go.RowKit Go.Proofs.ZW.Wa Go.Proofs.ZW.Wc
theorem u64w {x:Int} (h0:0≤x) (h1:x<18446744073709551616):IntKind.u64.wrap x=x:=IntWalk.u64_in x ⟨h0,by omega⟩
theorem or_join (r x:Int) (hr:0≤r∧r<4294967296) (hx:0≤x∧x<4294967296):Go.bits .or .u64 (IntKind.u64.wrap (r*4294967296)) (IntKind.u64.wrap x)=r*4294967296+x:=by
  rw [u64w (by omega) (by omega),u64w (by omega) (by omega)]
  obtain ⟨R,rfl⟩:=Int.eq_ofNat_of_zero_le hr.1
  obtain ⟨X,rfl⟩:=Int.eq_ofNat_of_zero_le hx.1
  have e:((R:Int)*4294967296)=((R*4294967296:Nat):Int):=by omega
  rw [e,bits_or_u64_nat _ _ (by omega) (by omega)]
  have:=Nat.shiftLeft_add_eq_or_of_lt (i:=32) (b:=X) (by omega) R
  rw [Nat.shiftLeft_eq] at this
  rw [show R*4294967296=R*2^32 by rfl,←this]
  omega
theorem or_join_hi (x r:Int) (hr:0≤r∧r<4294967296) (hx:0≤x∧x<4294967296):Go.bits .or .u64 (IntKind.u64.wrap x) (IntKind.u64.wrap (r*4294967296))=r*4294967296+x:=by
  rw [u64w (by omega) (by omega),u64w (by omega) (by omega)]
  obtain ⟨R,rfl⟩:=Int.eq_ofNat_of_zero_le hr.1
  obtain ⟨X,rfl⟩:=Int.eq_ofNat_of_zero_le hx.1
  have e:((R:Int)*4294967296)=((R*4294967296:Nat):Int):=by omega
  rw [e,bits_or_u64_nat _ _ (by omega) (by omega),Nat.or_comm]
  have:=Nat.shiftLeft_add_eq_or_of_lt (i:=32) (b:=X) (by omega) R
  rw [Nat.shiftLeft_eq] at this
  rw [show R*4294967296=R*2^32 by rfl,←this]
  omega
theorem rd_lt {xs:List Int} {i:Nat} (h:i<xs.length):rd xs (i:Int)=xs[i]:=by rw [←zaO,List.getD_eq_getElem?_getD,List.getElem?_eq_getElem h]; rfl
theorem zcd {xs:List Int} {i:Nat} (h:i<xs.length):xs.drop i=rd xs (i:Int) :: xs.drop (i+1):=by rw [rd_lt h]; exact List.drop_eq_getElem_cons h
theorem drop_set_lt {xs:List Int} {i j:Nat} (h:i<j) (v:Int):(xs.set i v).drop j=xs.drop j:=by
  rw [List.drop_set,if_pos h]
theorem zcV {xs:List Int} {i:Nat} (h:i<xs.length) (v:Int):(xs.set i v).drop i=v :: xs.drop (i+1):=by
  rw [zcd (by simpa using h),drop_set_lt (Nat.lt_succ_self i),rd_lt (by simpa using h)]; simp
theorem zcO {xs:List Int} {i j:Nat} (h:i≠j) (v:Int):rd (xs.set i v) (j:Int)=rd xs (j:Int):=by
  rw [←zaO,←zaO,List.getD_eq_getElem?_getD,List.getD_eq_getElem?_getD,List.getElem?_set_ne h]
theorem own_of_R {w:World} {base:Nat} {ok:Nat→Prop} {v:Value} {zs:List Int} (h:Kd.R (Kd.int .u32) 144 w base ok v zs):OwnW w base v zs:=by
  obtain ⟨_,inner,ho,hr⟩:=h
  have e:=Kd.reps_encs hr
  subst e
  exact ho
theorem small_loop (xs:List Int) (b:Int) (hx:Wd xs) (hb0:0<b) (hb1:b<4294967296) (hm:xs.length≤9223372036854775807):∀ (i:Nat) (qs:List Int) (r:Int),i≤xs.length→qs.length=xs.length→Wd qs→0≤r→r<b →
    val (xs.drop i)=b*val (qs.drop i)+r→∀ k,i<k→∃ zs s,ample_small.l0 k xs b qs r ((i:Int)-1)=some (zs,s)∧zs.length=xs.length∧Wd zs∧0≤s∧s<b∧val xs=b*val zs+s:=by
  intro i
  induction i with
  | zero =>
    intro qs r _ hl hq h0 h1 hv k hk
    obtain ⟨k,rfl⟩:∃ m,k=m+1:=⟨k-1,by omega⟩
    refine ⟨qs,r,?_,hl,hq,h0,h1,by simpa using hv⟩
    simp only [ample_small.l0]
    rw [if_neg (by omega),Int.emod_eq_of_lt h0 (by omega)]
  | succ i ih =>
    intro qs r hi hl hq h0 h1 hv k hk
    obtain ⟨k,rfl⟩:∃ m,k=m+1:=⟨k-1,by omega⟩
    have e1:(((i+1:Nat):Int)-1)=(i:Int):=by omega
    rw [e1]
    have hxi:=hx.rd (i:Int)
    have hor:=or_join r (rd xs (i:Int)) ⟨h0,by omega⟩ hxi
    have hbw:IntKind.u64.wrap b=b:=u64w (by omega) (by omega)
    have hs0:0≤r*4294967296+rd xs (i:Int):=by omega
    have hq1:(r*4294967296+rd xs (i:Int))/b<4294967296:=Int.ediv_lt_of_lt_mul hb0 (by
      have:r*4294967296+4294967296≤b*4294967296:=by omega
      omega)
    have hq0:0≤(r*4294967296+rd xs (i:Int))/b:=Int.ediv_nonneg hs0 (by omega)
    have ediv:IntKind.u64.wrap (Int.tdiv (r*4294967296+rd xs (i:Int)) b)%4294967296=(r*4294967296+rd xs (i:Int))/b:=by
      rw [Int.tdiv_eq_ediv_of_nonneg hs0,u64w hq0 (by omega),Int.emod_eq_of_lt hq0 hq1]
    simp only [ample_small.l0]
    rw [if_pos (by omega),if_pos (by omega),if_pos (by omega),hbw,if_neg (by omega),if_pos (by omega),hor,ediv,Int.tmod_eq_emod_of_nonneg hs0,Int.toNat_natCast,w64 (by omega) (by omega)]
    refine ih _ _ (by omega) (by rw [List.length_set]; exact hl) (zbA hq _ hq0 hq1) (Int.emod_nonneg _ (by omega)) (Int.emod_lt_of_pos _ hb0) ?_ k (by omega)
    rw [zcV (by omega),zcd (by omega)]
    simp only [val]
    rw [hv]
    have:=Int.emod_add_mul_ediv (r*4294967296+rd xs (i:Int)) b
    generalize (r*4294967296+rd xs (i:Int))/b=q at this ⊢
    generalize (r*4294967296+rd xs (i:Int))%b=s at this ⊢
    generalize rd xs (i:Int)=x at this ⊢
    generalize val (qs.drop (i+1))=Q
    grind
theorem small_tells (xs:List Int) (b:Int) (hx:Wd xs) (hb0:0<b) (hb1:b<4294967296) (hm:xs.length≤34359738369):∃ k zs s,ample_small.f k xs b=some (zs,s)∧zs.length=xs.length∧Wd zs∧0≤s∧s<b∧val xs=b*val zs+s:=by
  obtain ⟨zs,s,h1,h2⟩:=small_loop xs b hx hb0 hb1 (by omega) xs.length (List.replicate xs.length 0) 0 (Nat.le_refl _) (by simp) (zbS _) (Int.le_refl _) hb0 (by rw [List.drop_eq_nil_of_le (Nat.le_refl _),List.drop_eq_nil_of_le (by simp)]; simp [val]) (xs.length+1) (by omega)
  refine ⟨xs.length+1,zs,s,?_,h2⟩
  unfold ample_small.f
  rw [if_pos (by omega),if_pos (by omega),Int.toNat_natCast,w64 (by omega) (by omega)]
  exact h1
theorem or_lo (a m:Int) (n:Nat) (hn:n≤31) (ha:0≤a∧a<2^n) (hm:0≤m∧m<4294967296) (hd:m%2^n=0):Go.bits .or .u32 a m=a+m:=by
  obtain ⟨A,rfl⟩:=Int.eq_ofNat_of_zero_le ha.1
  obtain ⟨M,rfl⟩:=Int.eq_ofNat_of_zero_le hm.1
  have hp:(2:Nat)^n≤2^31:=Nat.pow_le_pow_right (by decide) hn
  have hA:A<2^n:=by have:=ha.2; rw [show (2:Int)^n=((2^n:Nat):Int) by simp] at this; omega
  have hM:M%2^n=0:=by rw [show (2:Int)^n=((2^n:Nat):Int) by simp] at hd; omega
  rw [u32_or_nat _ _ (by omega) (by omega)]
  have h1:=Nat.shiftLeft_add_eq_or_of_lt (i:=n) (b:=A) hA (M/2^n)
  rw [Nat.shiftLeft_eq,Nat.div_mul_cancel (Nat.dvd_of_mod_eq_zero hM)] at h1
  rw [Nat.or_comm,←h1]
  omega
theorem left_loop (xs:List Int) (n:Nat) (hn:n≤31) (hx:Wd xs) (hm:xs.length≤9223372036854775806):∀ (d i:Nat) (zs:List Int),d=xs.length-i→i≤xs.length→zs.length=xs.length+1→Wd zs→rd zs (i:Int)<2^n→val (zs.take (i+1))=val (xs.take i)*2^n→(∀ j,i<j→rd zs (j:Int)=0) →
    ∀ k,d<k→∃ r,ample_left.l0 k (n:Int) zs xs (xs.length:Int) (i:Int)=some r∧r.length=xs.length+1∧Wd r∧val r=val xs*2^n:=by
  intro d
  induction d with
  | zero =>
    intro i zs hd hi hl hz h1 hv h0 k hk
    obtain ⟨k,rfl⟩:∃ m,k=m+1:=⟨k-1,by omega⟩
    refine ⟨zs,?_,hl,hz,?_⟩
    · simp only [ample_left.l0]
      rw [if_neg (by omega)]
    · have:i=xs.length:=by omega
      subst this
      rwa [List.take_of_length_le (by omega),List.take_length] at hv
  | succ d ih =>
    intro i zs hd hi hl hz h1 hv h0 k hk
    obtain ⟨k,rfl⟩:∃ m,k=m+1:=⟨k-1,by omega⟩
    have a1:(i:Int)<(xs.length:Int):=by omega
    have a2:0≤(i:Int):=by omega
    have a3:0≤(n:Int):=by omega
    have a4:(i:Int)<(zs.length:Int):=by omega
    have a5:0≤((i+1:Nat):Int):=by omega
    have a6:((i+1:Nat):Int)<(zs.length:Int):=by omega
    have E1:=Lib.hid (show wrap64 ((i:Int)+1)=((i+1:Nat):Int) by rw [w64 (by omega) (by omega)]; omega)
    have b1:i<zs.length:=by omega
    have b2:i+1<zs.length:=by omega
    have b3:i<xs.length:=by omega
    have b4:d<k:=by omega
    have b5:d=xs.length-(i+1):=by omega
    have hzn:rd zs ((i+1:Nat):Int)=0:=h0 (i+1) (by omega)
    have hxi:=hx.rd (i:Int)
    have hzi:=hz.rd (i:Int)
    have hp:(2:Int)^n≤2147483648:=by
      have:(2:Nat)^n≤2^31:=Nat.pow_le_pow_right (by decide) hn
      rw [show (2:Int)^n=((2^n:Nat):Int) by simp]; omega
    have hp0:(0:Int)<2^n:=Int.pow_pos (by decide)
    have hm0:0≤rd xs (i:Int)*2^n:=Int.mul_nonneg hxi.1 (by omega)
    have hm1:rd xs (i:Int)*2^n<4294967296*2147483648:=by
      have:=Int.mul_le_mul (show rd xs (i:Int)≤4294967295 by omega) hp (by omega) (by decide)
      omega
    have hsh0:shl .u64 (IntKind.u64.wrap (rd xs (i:Int))) (n:Int)=rd xs (i:Int)*2^n:=by
      unfold shl
      rw [show IntKind.u64.wrap (rd xs (i:Int))=rd xs (i:Int) from u64w (by omega) (by omega),Int.toNat_natCast,Nat.min_eq_left (by show n≤64; omega),u64w hm0 (by omega)]
    have HSH:=Lib.hid hsh0
    clear hsh0
    have hmod:(rd xs (i:Int)*2^n%4294967296)%2^n=0:=by
      have hdv:(2:Int)^n∣4294967296:=⟨2^(32-n),by rw [←Int.pow_add,show n+(32-n)=32 by omega]; simp⟩
      rw [Int.emod_emod_of_dvd _ hdv]
      exact Int.mul_emod_left _ _
    have hor0:=or_lo (rd zs (i:Int)) (rd xs (i:Int)*2^n%4294967296) n hn ⟨hzi.1,h1⟩ ⟨by omega,by omega⟩ hmod
    have hlo2:rd zs (i:Int)+rd xs (i:Int)*2^n%4294967296<4294967296:=by
      have:=bits_hi_u32 .or (rd zs (i:Int)) (rd xs (i:Int)*2^n%4294967296)
      rw [hor0] at this
      clear hor0
      omega
    have HOR:=Lib.hid hor0
    clear hor0
    have hhi0:0≤rd xs (i:Int)*2^n/4294967296:=by omega
    have hhi2:rd xs (i:Int)*2^n<4294967296*2^n:=Int.mul_lt_mul_of_pos_right hxi.2 hp0
    have hhi1:rd xs (i:Int)*2^n/4294967296<2^n:=by omega
    have hlo1:=hlo2
    simp only [ample_left.l0]
    have hhi3:rd xs (i:Int)*2^n/4294967296<4294967296:=by omega
    have hlo0:0≤rd zs (i:Int)+rd xs (i:Int)*2^n%4294967296:=by omega
    rw [if_pos a1,if_pos a2,if_pos a1,if_pos a3,if_pos a4,E1.out,if_pos a5,if_pos a6,HSH.out,HOR.out,Int.toNat_natCast,Int.toNat_natCast,Int.emod_eq_of_lt hhi0 hhi3]
    clear HSH HOR hm1 hp hhi2 hmod
    refine ih (i+1) _ b5 (by omega) (by simp [hl]) (zbA (zbA hz _ hlo0 hlo1) _ hhi0 hhi3) ?_ ?_ ?_ k b4
    · rw [rd_lt (by simp; exact b2)]; simpa using hhi1
    · have hs1:val ((zs.set i (rd zs (i:Int)+rd xs (i:Int)*2^n%4294967296)).take (i+1+1))=val (zs.take (i+1))+4294967296^i*(rd xs (i:Int)*2^n%4294967296):=by
        rw [zcA (by omega) (by omega),zao (xs:=zs) (i:=i+1) b2,hzn]
        grind
      rw [zcA (by omega) (by simp; omega),hs1,hv,zao (xs:=xs) (by omega)]
      have hr0:rd (zs.set i (rd zs (i:Int)+rd xs (i:Int)*2^n%4294967296)) ((i+1:Nat):Int)=0:=by rw [zcO (by omega),hzn]
      rw [hr0,Int.pow_succ]
      have:=Int.emod_add_mul_ediv (rd xs (i:Int)*2^n) 4294967296
      generalize rd xs (i:Int)*2^n%4294967296=q at this ⊢
      generalize rd xs (i:Int)*2^n/4294967296=s at this ⊢
      grind
    · intro j hj
      rw [zcO (by omega),zcO (by omega)]
      exact h0 j (by omega)
theorem left_tells (xs:List Int) (n:Nat) (hn:n≤31) (hx:Wd xs) (hm:xs.length≤34359738369):∃ k r,ample_left.f k xs (n:Int)=some r∧r.length=xs.length+1∧Wd r∧val r=val xs*2^n:=by
  obtain ⟨r,h1,h2⟩:=left_loop xs n hn hx (by omega) xs.length 0 (List.replicate (xs.length+1) 0) (by omega) (by omega) (by simp) (zbS _) (by
      rw [←zaO,List.getD_eq_getElem?_getD,List.getElem?_replicate,if_pos (by omega)]
      exact Int.pow_pos (by decide)) (by rw [List.take_replicate,val_zeros]; simp [val]) (fun j _=>by
      rw [←zaO,List.getD_eq_getElem?_getD,List.getElem?_replicate]; split<;>rfl) (xs.length+1) (by omega)
  refine ⟨xs.length+1,r,?_,h2⟩
  have e1:wrap64 ((xs.length:Int)+1)=((xs.length+1:Nat):Int):=by rw [w64 (by omega) (by omega)]; omega
  unfold ample_left.f
  rw [e1,if_pos (Int.natCast_nonneg _),Int.toNat_natCast]
  clear e1
  rw [if_pos (by omega)]
  exact h1
theorem shr_eq (x:Int) (n:Nat) (hn:n≤31):shr .u64 x (n:Int)=x/2^n:=by
  unfold shr
  rw [Int.toNat_natCast,Nat.min_eq_left (by show n≤64; omega)]
theorem pow_split (n:Nat) (hn:n≤31):∃ Q:Int,0<Q∧(4294967296:Int)=2^n*Q:=by
  refine ⟨2^(32-n),Int.pow_pos (by decide),?_⟩
  rw [←Int.pow_add,show n+(32-n)=32 by omega]; simp
theorem right_step {D Q x y T q:Int} (hD:0<D) (hB:(4294967296:Int)=D*Q) (hQ:0<Q) (hx0:0≤x) (hx1:x<4294967296) (hy0:0≤y) (hT:0≤T) (hy:T=y+4294967296*q) :
    (x+4294967296*T)/D=(y*4294967296+x)/D%4294967296+4294967296*(T/D):=by
  have e1:T=D*(T/D)+T%D:=(Int.mul_ediv_add_emod T D).symm
  have e2:T%D=y%D:=by rw [hy,hB,Int.mul_assoc,Int.add_mul_emod_self_left]
  have e3:y=D*(y/D)+y%D:=(Int.mul_ediv_add_emod y D).symm
  have t0:=Int.emod_nonneg y (Int.ne_of_gt hD)
  have t1:=Int.emod_lt_of_pos y hD
  rw [e2] at e1
  generalize hu:T/D=u at e1 ⊢
  generalize hv:y/D=v at e3 ⊢
  generalize y%D=t at e1 e3 t0 t1 e2
  have e4:(x+4294967296*T)/D=4294967296*u+(x+4294967296*t)/D:=by
    rw [e1,show x+4294967296*(D*u+t)=(x+4294967296*t)+D*(4294967296*u) by grind,Int.add_mul_ediv_left _ _ (Int.ne_of_gt hD)]
    omega
  have e5:(y*4294967296+x)/D=4294967296*v+(x+4294967296*t)/D:=by
    rw [e3,show (D*v+t)*4294967296+x=(x+4294967296*t)+D*(4294967296*v) by grind,Int.add_mul_ediv_left _ _ (Int.ne_of_gt hD)]
    omega
  have e6:(x+4294967296*t)/D<4294967296:=Int.ediv_lt_of_lt_mul hD (by
    have:4294967296*t≤4294967296*(D-1):=Int.mul_le_mul_of_nonneg_left (by omega) (by decide)
    have e:4294967296*(D-1)=4294967296*D-4294967296:=by omega
    have e':(4294967296:Int)*D=D*4294967296:=Int.mul_comm _ _
    omega)
  have e7:0≤(x+4294967296*t)/D:=Int.ediv_nonneg (by omega) (by omega)
  rw [e4,e5]
  omega
theorem right_loop (xs : List Int) (n : Nat) (hn : n ≤ 31) (hx : Wd xs) (hm : xs.length ≤ 9223372036854775806) : ∀ (d i : Nat) (zs : List Int), d = xs.length - i → i ≤ xs.length → zs.length = xs.length → Wd zs →
    ∀ k,d<k→∃ r,ample_right.l0 k xs (n:Int) zs xs (xs.length:Int) (i:Int)=some r∧r.length=xs.length∧Wd r∧r.take i=zs.take i∧val (r.drop i)=val (xs.drop i)/2^n:=by
  intro d
  induction d with
  | zero =>
    intro i zs hd hi hl hz k hk
    obtain ⟨k,rfl⟩:∃ m,k=m+1:=⟨k-1,by omega⟩
    refine ⟨zs,?_,hl,hz,rfl,?_⟩
    · simp only [ample_right.l0]
      rw [if_neg (by omega)]
    · rw [List.drop_eq_nil_of_le (by omega),List.drop_eq_nil_of_le (by omega)]
      simp [val]
  | succ d ih =>
    intro i zs hd hi hl hz k hk
    obtain ⟨k,rfl⟩:∃ m,k=m+1:=⟨k-1,by omega⟩
    have a1:(i:Int)<(xs.length:Int):=by omega
    have a2:0≤(i:Int):=by omega
    have a3:0≤(n:Int):=by omega
    have a4:(i:Int)<(zs.length:Int):=by omega
    have a5:0≤((i+1:Nat):Int):=by omega
    have b1:i<zs.length:=by omega
    have b3:i<xs.length:=by omega
    have b4:d<k:=by omega
    have b5:d=xs.length-(i+1):=by omega
    have b6:i+1≤xs.length:=by omega
    have E1:=Lib.hid (show wrap64 ((i:Int)+1)=((i+1:Nat):Int) by rw [w64 (by omega) (by omega)]; omega)
    have hxi:=hx.rd (i:Int)
    have hyi:=hx.rd ((i+1:Nat):Int)
    obtain ⟨Q,hQ0,hQ⟩:=pow_split n hn
    have hp0:(0:Int)<2^n:=Int.pow_pos (by decide)
    have hTn:=zap (hx.drop (i+1))
    have hT:∃ q,val (xs.drop (i+1))=rd xs ((i+1:Nat):Int)+4294967296*q:=by
      by_cases h:i+1<xs.length
      · rw [zcd h]; exact ⟨_,rfl⟩
      · rw [List.drop_eq_nil_of_le (by omega)]
        refine ⟨0,?_⟩
        rw [←zaO,List.getD_eq_getElem?_getD,List.getElem?_eq_none (by omega)]; rfl
    obtain ⟨q,hq⟩:=hT
    have hstep:=right_step hp0 hQ hQ0 hxi.1 hxi.2 hyi.1 hTn hq
    have hd0:0≤(rd xs ((i+1:Nat):Int)*4294967296+rd xs (i:Int))/2^n%4294967296:=Int.emod_nonneg _ (by decide)
    have hd1:(rd xs ((i+1:Nat):Int)*4294967296+rd xs (i:Int))/2^n%4294967296<4294967296:=Int.emod_lt_of_pos _ (by decide)
    obtain ⟨r,h1,h2,h3,h4,h5⟩:=ih (i+1) (zs.set i ((rd xs ((i+1:Nat):Int)*4294967296+rd xs (i:Int))/2^n%4294967296)) b5 b6 (by rw [List.length_set]; exact hl) (zbA hz _ hd0 hd1) k b4
    have hrl:i<r.length:=by rw [h2]; exact b3
    have hri:rd r (i:Int)=(rd xs ((i+1:Nat):Int)*4294967296+rd xs (i:Int))/2^n%4294967296:=by
      have e:=congrArg (fun l=>l[i]?) h4
      simp only [List.getElem?_take,if_pos (Nat.lt_succ_self i),List.getElem?_set_self b1] at e
      rw [←zaO,List.getD_eq_getElem?_getD,e]; rfl
    refine ⟨r,?_,h2,h3,?_,?_⟩
    · simp only [ample_right.l0]
      rw [if_pos a1,if_pos a2,if_pos a1,E1.out]
      by_cases h:((i+1:Nat):Int)<(xs.length:Int)
      · rw [if_pos h,if_pos a5,if_pos a3,if_pos a4]
        have hw:IntKind.u64.wrap (IntKind.u64.wrap (rd xs ((i+1:Nat):Int))*4294967296)=IntKind.u64.wrap (rd xs ((i+1:Nat):Int)*4294967296):=by rw [show IntKind.u64.wrap (rd xs ((i+1:Nat):Int))=rd xs ((i+1:Nat):Int) from u64w hyi.1 (by omega)]
        rw [hw,or_join_hi _ _ hyi hxi,shr_eq _ n hn,Int.toNat_natCast]
        exact h1
      · rw [if_neg h,if_pos a3,if_pos a4]
        have hy0:rd xs ((i+1:Nat):Int)=0:=by rw [←zaO,List.getD_eq_getElem?_getD,List.getElem?_eq_none (by omega)]; rfl
        rw [show IntKind.u64.wrap (rd xs (i:Int))=rd xs (i:Int) from u64w hxi.1 (by omega),shr_eq _ n hn,Int.toNat_natCast]
        rw [hy0,Int.zero_mul,Int.zero_add] at h1
        exact h1
    · have e:=congrArg (List.take i) h4
      rw [List.take_take,List.take_take,Nat.min_eq_left (Nat.le_succ i),List.take_set_of_le (Nat.le_refl i)] at e
      exact e
    · rw [zcd hrl,zcd b3,hri]
      simp only [val]
      rw [h5]
      exact hstep.symm
theorem right_tells (xs:List Int) (n:Nat) (hn:n≤31) (hx:Wd xs) (hm:xs.length≤34359738369):∃ k r,ample_right.f k xs (n:Int)=some r∧r.length=xs.length∧Wd r∧val r=val xs/2^n:=by
  obtain ⟨r,h1,h2,h3,_,h5⟩:=right_loop xs n hn hx (by omega) xs.length 0 (List.replicate xs.length 0) (by omega) (by omega) (by simp) (zbS _) (xs.length+1) (by omega)
  refine ⟨xs.length+1,r,?_,h2,h3,by simpa using h5⟩
  unfold ample_right.f
  rw [if_pos (Int.natCast_nonneg _),Int.toNat_natCast,if_pos (by omega)]
  exact h1
theorem small_calls (A:Option Addr) (c:Nat) (xs:List Int) (b:Int) (w:World) (hw:WAt w A c xs) (hx:Wd xs) (hb0:0<b) (hb1:b<4294967296) (hm:xs.length≤34359738369) :
    Calls Tryz.prog 138 #[.slice A xs.length c,.int .u32 b] w fun e w'=>∃ (A':Option Addr) (c':Nat) (zs:List Int) (s:Int),e = .returned (.tuple #[.slice A' zs.length c',.int .u32 s])∧WAt w' A' c' zs∧Wd zs∧zs.length=xs.length∧0≤s∧s<b∧val xs=b*val zs+s∧Below w.heap.size w w':=by
  obtain ⟨k,zs,s,h,hl,hd,h0,h1,hv⟩:=small_tells xs b hx hb0 hb1 hm
  refine (ample_small.calls k A c xs b zs s w hw.row hw.le h).mono fun e w' ⟨v,he,hr,hb⟩ => ?_
  obtain ⟨A',c',rfl,hW⟩:=WAt.of_R hr
  exact ⟨A',c',zs,s,he,hW,hd,hl,h0,h1,hv,hb⟩
theorem left_calls (A:Option Addr) (c:Nat) (xs:List Int) (n:Nat) (w:World) (hw:WAt w A c xs) (hx:Wd xs) (hn:n≤31) (hm:xs.length≤34359738369) :
    Calls Tryz.prog 242 #[.slice A xs.length c,.int .i64 n] w fun e w'=>∃ (v:Value) (zs:List Int),e = .returned v∧OwnW w' w.heap.size v zs∧Wd zs∧zs.length=xs.length+1∧val zs=val xs*2^n∧Below w.heap.size w w':=by
  obtain ⟨k,zs,h,hl,hd,hv⟩:=left_tells xs n hn hx hm
  refine (ample_left.calls k A c xs n zs w hw.row hw.le h).mono fun e w' ⟨v,he,hr,hb⟩ => ?_
  exact ⟨v,zs,he,own_of_R hr,hd,hl,hv,hb⟩
theorem right_calls (A:Option Addr) (c:Nat) (xs:List Int) (n:Nat) (w:World) (hw:WAt w A c xs) (hx:Wd xs) (hn:n≤31) (hm:xs.length≤34359738369) :
    Calls Tryz.prog 244 #[.slice A xs.length c,.int .i64 n] w fun e w'=>∃ (A':Option Addr) (c':Nat) (zs:List Int),e = .returned (.slice A' zs.length c')∧WAt w' A' c' zs∧Wd zs∧zs.length=xs.length∧val zs=val xs/2^n∧Below w.heap.size w w':=by
  obtain ⟨k,zs,h,hl,hd,hv⟩:=right_tells xs n hn hx hm
  refine (ample_right.calls k A c xs n zs w hw.row hw.le h).mono fun e w' ⟨v,he,hr,hb⟩ => ?_
  obtain ⟨A',c',rfl,hW⟩:=WAt.of_R hr
  exact ⟨A',c',zs,he,hW,hd,hl,hv,hb⟩
end Go.Proofs.ZP
end
section
namespace Go.Proofs.ZP
open Go.RowKit Go.Proofs.ZW.Wa
structure KeepB (w w':World) (g:Nat):Prop where
  os:w'.os=w.os
  tape:w'.tape=w.tape
  output:w'.output=w.output
  size:w.heap.size≤w'.heap.size
  other:∀ k,k<w.heap.size→k≠g→w'.heap[k]? = w.heap[k]?
theorem KeepB.refl (w:World) (g:Nat):KeepB w w g:=⟨rfl,rfl,rfl,Nat.le_refl _,fun _ _ _=>rfl⟩
theorem KeepB.trans {w w1 w2:World} {g:Nat} (h:KeepB w w1 g) (k:KeepB w1 w2 g):KeepB w w2 g:=
  ⟨k.os.trans h.os,k.tape.trans h.tape,k.output.trans h.output,Nat.le_trans h.size k.size,fun i hi hne=>(k.other i (Nat.lt_of_lt_of_le hi h.size) hne).trans (h.other i hi hne)⟩
theorem KeepB.set {w w1:World} {g:Nat} (h:KeepB w w1 g) (j:Nat) (u:Value):KeepB w (w1.setCell ⟨g,j,none⟩ u) g:=
  h.trans ⟨rfl,rfl,rfl,by simp [World.setCell],fun k _ hne=>Below.heap_setCell w1 ⟨g,j,none⟩ u k hne⟩
theorem KeepB.drewN {w w1:World} {g:Nat} (h:KeepB w w1 g) (n:Nat):KeepB w (w1.drewN n) g:=h.trans ⟨rfl,rfl,rfl,Nat.le_refl _,fun _ _ _=>rfl⟩
theorem KeepB.below {w0 w w':World} {g:Nat} (h:Below w0.heap.size w0 w) (k:KeepB w w' g) (hg:w0.heap.size≤g):Below w0.heap.size w0 w':=
  ⟨k.os.trans h.os,k.tape.trans h.tape,k.output.trans h.output,Nat.le_trans h.size k.size,fun i hi=>(k.other i (Nat.lt_of_lt_of_le hi h.size) (by omega)).trans (h.block i hi)⟩
theorem WAt.keepB {w w':World} {A:Option Addr} {c g:Nat} {ws:List Int} (h:WAt w A c ws) (k:KeepB w w' g) (hne:∀ ad,A=Option.some ad→ad.block≠g):WAt w' A c ws where
  le:=h.le
  row:=⟨h.row.1,h.row.2.1,fun hn=>by
    obtain ⟨ad,he,hc⟩:=h.row.2.2 hn
    obtain ⟨cs,hb⟩:=h.typ ad he
    refine ⟨ad,he,fun j p hp => ?_⟩
    obtain ⟨c',h1,h2,h3⟩:=hc j p hp
    refine ⟨c',h1,h2,fun i u hu => ?_⟩
    rw [←h3 i u hu]
    exact World.cell?_of_block (w:=w) (by rw [zc0]; exact k.other _ (zas hb) (hne ad he))⟩
  typ:=fun ad he=>by
    obtain ⟨cs,hb⟩:=h.typ ad he
    exact ⟨cs,(k.other _ (zas hb) (hne ad he)).trans hb⟩
def Win (w:World) (base g N cap:Nat) (pre us post:List Int):Prop:=w.ownsRow base 144 1 (.slice (some ⟨g,0,none⟩) N cap) N (nums .u32 (pre++us++post))
theorem rd_win (pre us post:List Int) {j:Nat} (hj:j<us.length):rd (pre++us++post) ((pre.length+j:Nat):Int)=rd us (j:Int):=by
  rw [rd_lt (by simp; omega),rd_lt hj,List.getElem_append_left (by simp; omega),List.getElem_append_right (by omega)]
  simp
theorem set_win (pre us post:List Int) {j:Nat} (hj:j<us.length) (v:Int):(pre++us++post).set (pre.length+j) v=pre++us.set j v++post:=by
  rw [List.set_append_left _ _ (by simp; omega),List.set_append_right _ _ (by omega),Nat.add_sub_cancel_left]
theorem Win.len {w:World} {base g N cap:Nat} {pre us post:List Int} (h:Win w base g N cap pre us post):(pre++us++post).length=N:=by
  have:=h.1; rw [nums_length] at this; omega
theorem Win.at_ {w:World} {base g N cap:Nat} {pre us post:List Int} (h:Win w base g N cap pre us post) {j:Nat} (hj:j<us.length) :
    w.cell? ⟨g,pre.length+j,none⟩=some (.int .u32 (rd us (j:Int)))∧w.frozen? ⟨g,pre.length+j,none⟩=false:=by
  have hl:=h.len
  have:=zbP h ((pre.length+j:Nat):Int) (by omega) (by simp at hl; omega)
  rw [Int.toNat_natCast,rd_win pre us post hj] at this
  exact this
theorem Win.set {w:World} {base g N cap:Nat} {pre us post:List Int} (h:Win w base g N cap pre us post) {j:Nat} (hj:j<us.length) (v:Int) :
    Win (w.setCell ⟨g,pre.length+j,none⟩ (.int .u32 v)) base g N cap pre (us.set j v) post:=by
  have:=(zaX h ((pre.length+j:Nat):Int) v).1
  rw [Int.toNat_natCast,set_win pre us post hj] at this
  exact this
theorem qhat_ok (us vs:List Int) (n:Nat) (hn:0<n) (hus:us.length=n+1) (hvs:vs.length=n) (du:Wd us) (dv:Wd vs) (un um vt:Int) (h1:rd us (n:Int)=un) (h2:rd us ((n-1:Nat):Int)=um) (h3:rd vs ((n-1:Nat):Int)=vt) (hvt:0<vt) (hlt:val us<4294967296*val vs) :
    ∃ qh:Int,(if 4294967295<(un*4294967296+um)/vt then 4294967295 else (un*4294967296+um)/vt)=qh∧0≤qh∧qh≤4294967295∧val us<(qh+1)*val vs:=by
  refine ⟨_,rfl,?_⟩
  have hun:=du.rd (n:Int)
  have hum:=du.rd ((n-1:Nat):Int)
  rw [h1] at hun
  rw [h2] at hum
  have hx0:0≤(un*4294967296+um)/vt:=Int.ediv_nonneg (by omega) (by omega)
  split
  · refine ⟨by decide,by decide,?_⟩
    exact hlt
  · refine ⟨hx0,by omega,?_⟩
    have ha:un*4294967296+um<((un*4294967296+um)/vt+1)*vt:=Int.lt_ediv_add_one_mul_self _ hvt
    generalize (un*4294967296+um)/vt=q at ha hx0 ⊢
    obtain ⟨m,rfl⟩:∃ m,n=m+1:=⟨n-1,by omega⟩
    simp only [Nat.add_sub_cancel] at h2 h3
    have eu:val us=val (us.take m)+4294967296^m*um+4294967296^(m+1)*un:=by
      have e1:=zao (xs:=us) (i:=m+1) (by omega)
      rw [List.take_of_length_le (by omega),zao (by omega),h1,h2] at e1
      exact e1
    have ev:val vs=val (vs.take m)+4294967296^m*vt:=by
      have e1:=zao (xs:=vs) (i:=m) (by omega)
      rw [List.take_of_length_le (by omega),h3] at e1
      exact e1
    have bu:=zbH (du.take m)
    rw [List.length_take,Nat.min_eq_left (by omega)] at bu
    have bv:=zap (dv.take m)
    have hp:(0:Int)<4294967296^m:=Int.pow_pos (by decide)
    have h5:4294967296^m*(un*4294967296+um+1)≤4294967296^m*((q+1)*vt):=Int.mul_le_mul_of_nonneg_left (by omega) (by omega)
    have h6:0≤(q+1)*val (vs.take m):=Int.mul_nonneg (by omega) bv
    rw [eu,ev,Int.pow_succ]
    generalize (4294967296:Int)^m=P at *
    have e7:P*(un*4294967296+um+1)=P*um+P*4294967296*un+P:=by grind
    have e8:(q+1)*(val (vs.take m)+P*vt)=(q+1)*val (vs.take m)+P*((q+1)*vt):=by grind
    omega
theorem and_mask (x:Int) (h0:0≤x) (h1:x<18446744073709551616):Go.bits .and .u64 x 4294967295=x%4294967296:=by
  obtain ⟨X,rfl⟩:=Int.eq_ofNat_of_zero_le h0
  rw [show (4294967295:Int)=((4294967295:Nat):Int) from rfl,bits_and_u64_nat _ _ (by omega) (by decide)]
  have:=Nat.and_two_pow_sub_one_eq_mod X 32
  simp only [show (2:Nat)^32-1=4294967295 from rfl,show (2:Nat)^32=4294967296 from rfl] at this
  rw [this]; omega
theorem dword (u m b:Int) (hu:0≤u∧u<4294967296) (hm:0≤m∧m<4294967296) (hb:0≤b∧b≤1) :
    ∃ bo:Int,0≤bo∧bo≤1∧IntKind.u64.wrap (IntKind.u64.wrap (u-m)-b)/9223372036854775808=bo∧IntKind.u64.wrap (IntKind.u64.wrap (u-m)-b)%4294967296=(u-m-b)%4294967296∧(bo=1↔u-m-b<0):=by
  refine ⟨_,?_,?_,rfl,?_,?_⟩<;>(simp only [IntKind.wrap_u64]; omega)
theorem mod_borrow (d bo:Int) (h0 : -4294967296≤d) (h1:d<4294967296) (hb0:0≤bo) (hb1:bo≤1) (h:bo=1↔d<0):d%4294967296=d+4294967296*bo:=by omega
theorem gs_out {q us vs ws:Int} (hx:ws=us-q*vs) (h1:us<(q+1)*vs):us=q*vs+ws∧ws<vs:=by
  have h2:(q+1)*vs=q*vs+vs:=by rw [Int.add_mul,Int.one_mul]
  omega
theorem gs_add {P Z W V T u y cc r s z':Int} (h1:z'=Z+P*(r-u)) (h2:Z+P*cc=W+T) (h3:r+4294967296*s=cc+(u+y)):z'+P*4294967296*s=W+(T+P*y):=by grind
theorem gs_sub {P Z us qh T u y cc bb m s bo:Int} (h2:Z-P*(cc+bb)=us-qh*T) (h3:m+4294967296*s=cc+qh*y):Z+P*(u-m-bb+4294967296*bo-u)-P*4294967296*(s+bo)=us-qh*(T+P*y):=by grind
theorem gs_top {P Z us qh V u cc bb bo:Int} (h2:Z-P*(cc+bb)=us-qh*V):Z+P*(u-cc-bb+4294967296*bo-u)=us-qh*V+P*4294967296*bo:=by grind
theorem gs_end {P Z W us q V u cc m s:Int} (h2:Z+P*cc=W+V) (h3:m+4294967296*s=cc+u) (h4:W=us-q*V+P*4294967296) (hs:s=0∨s=1):Z+P*(m-u)=us-(q-1)*V+(if decide (s=0)=true then P*4294967296 else 0):=by
  rcases hs with hs|hs<;>subst hs<;>simp<;>grind
theorem guess_calls (g N cap cu base:Nat) (pre us post vs:List Int) (A:Option Addr) (c:Nat) (w:World) (hW:Win w base g N cap pre us post) (hv:WAt w A c vs) (hne:∀ ad,A=some ad→ad.block≠g) (hus:us.length=vs.length+1) (hn:0<vs.length)
    (du:Wd us) (dv:Wd vs) (htop:rd vs ((vs.length-1:Nat):Int)≠0) (hlt:val us<4294967296*val vs) (hcu:vs.length+1≤cu) (hmax:vs.length≤34359738369) :
    Calls Tryz.prog 243 #[.slice (some ⟨g,pre.length,none⟩) (vs.length+1) cu,.slice A vs.length c] w fun e w'=>∃ (q:Int) (us':List Int),e = .returned (.int .u32 q)∧0≤q∧q<4294967296∧us'.length=vs.length+1∧Wd us'∧Win w' base g N cap pre us' post∧KeepB w w' g∧val us=q*val vs+val us'∧val us'<val vs:=by
  obtain ⟨ad,rfl⟩:=hv.ptr hn
  obtain ⟨hc1,hf1⟩:=hW.at_ (j:=vs.length) (by omega)
  obtain ⟨hc2,hf2⟩:=hW.at_ (j:=vs.length-1) (by omega)
  have hc3:=hv.cell (j:=vs.length-1) (by omega)
  rw [zaO] at hc3
  have hb1:=du.rd (vs.length:Int)
  have hb2:=du.rd ((vs.length-1:Nat):Int)
  have hb3:=dv.rd ((vs.length-1:Nat):Int)
  have HUS:=Lib.hid hus
  clear hus
  generalize hg1:rd us (vs.length:Int)=un at hc1 hb1
  generalize hg2:rd us ((vs.length-1:Nat):Int)=um at hc2 hb2
  generalize hg3:rd vs ((vs.length-1:Nat):Int)=vt at hc3 hb3 htop
  have HG1:=Lib.hid hg1
  have HG2:=Lib.hid hg2
  have HG3:=Lib.hid hg3
  clear hg1 hg2 hg3
  have hor:=or_join un um hb1 hb2
  rw [u64w (by omega) (by omega),u64w (by omega) (by omega)] at hor
  have hvt:(vt == 0)=false:=beq_eq_false_iff_ne.2 htop
  obtain ⟨hb10,hb11⟩:=hb1
  obtain ⟨hb20,hb21⟩:=hb2
  obtain ⟨hb30,hb31⟩:=hb3
  obtain ⟨qh,hqh,hq0,hq1,hq2⟩:=qhat_ok us vs vs.length hn HUS.out rfl du dv un um vt HG1.out HG2.out HG3.out (by omega) hlt
  have HQH:=Lib.hid hqh
  have HQ2:=Lib.hid hq2
  clear hqh hq2
  have hwr:IntKind.i64.wrap ((vs.length:Int)-1)=(vs.length:Int)-1:=IntWalk.i64_in _ (by omega)
  have hwr2:IntKind.u64.wrap (un*4294967296)=un*4294967296:=u64w (by omega) (by omega)
  have ht1:((vs.length:Int)-1).toNat=vs.length-1:=by omega
  have hi1:0≤(vs.length:Int)-1:=by omega
  have hi2:(vs.length:Int)-1<(vs.length:Int)+1:=by omega
  have hi3:(vs.length:Int)-1<(vs.length:Int):=by omega
  go_enter Tryz.func243,Tryz.ntmps243
  go_wp2_with fail
  go_quiet (fail)
  generalize hq:w.drewN _=w1
  have hW1:Win w1 base g N cap pre us post:=by subst hq; exact hW
  have hK1:KeepB w w1 g:=by subst hq; exact (KeepB.refl _ _).drewN _
  first|rw [HQH.out]|rw [show ∀ a b:Int,min a b=if b<a then b else a from fun a b=>by rw [Int.min_def]; split<;>split<;>omega,HQH.out]
  clear hq hor hvt htop hwr hwr2 ht1 hi1 hi2 hi3 hc1 hc2 hc3 hf1 hf2 hb10 hb11 hb20 hb21 hb30 hb31 HG1 HG2 HG3 HQH
  go_wp2
  go_loopw [7,8,41] (fun vc vb vi wr=>∃ (i:Nat) (cc bb:Int) (ws:List Int),i≤vs.length∧0≤cc∧cc<4294967296∧0≤bb∧bb≤1∧vc = .int .u64 cc∧vb = .int .u64 bb∧vi = .int .i64 i∧ws.length=vs.length+1∧Wd ws∧Win wr base g N cap pre ws post∧KeepB w wr g ∧
      val ws-4294967296^i*(cc+bb)=val us-qh*val (vs.take i)) (fun _ _ vi _=>vs.length-(intOf vi).toNat)
  case atStart=>exact ⟨0,0,0,us,by omega,by omega,by omega,by omega,by omega,rfl,rfl,rfl,HUS.out,du,hW1,hK1,by simp [val]⟩
  case round =>
    obtain ⟨i,cc,bb,ws,hi,hcc0,hcc1,hbb0,hbb1,rfl,rfl,rfl,hwl,hwd,hWr,hKr,hval⟩:=hrel
    have HWL:=Lib.hid hwl
    have HVAL:=Lib.hid hval
    clear hwl hval
    by_cases hil:i<vs.length
    · obtain ⟨hc1,hf1⟩:=hWr.at_ (j:=i) (by rw [HWL.out]; omega)
      have hc2:=(hv.keepB hKr hne).cell (j:=i) hil
      rw [zaO] at hc2
      have hbu:=hwd.rd (i:Int)
      have hbv:=dv.rd (i:Int)
      have hvv:=zao (xs:=vs) hil
      have HVV:=Lib.hid hvv
      clear hvv
      have hset:=hWr.set (j:=i) (by rw [HWL.out]; omega)
      have hvs:=fun v=>zcA (zs:=ws) (j:=i) (N:=vs.length+1) (by omega) (by rw [HWL.out]; omega) v
      have HVS:=Lib.hid hvs
      clear hvs
      generalize rd ws (i:Int)=u at hc1 hbu HVS
      generalize rd vs (i:Int)=y at hc2 hbv HVV
      have hp:=prod_bd (x:=qh) (y:=y) ⟨hq0,by omega⟩ hbv
      obtain ⟨hp0,hp1⟩:=hp
      obtain ⟨hbu0,hbu1⟩:=hbu
      obtain ⟨hbv0,hbv1⟩:=hbv
      have hand:=and_mask (cc+qh*y) (by omega) (by omega)
      obtain ⟨bo,hbo0,hbo1,hd1,hd2,hd3⟩:=dword u ((cc+qh*y)%4294967296) bb ⟨hbu0,hbu1⟩ ⟨by omega,by omega⟩ ⟨hbb0,hbb1⟩
      have hd4:=mod_borrow (u-(cc+qh*y)%4294967296-bb) bo (by omega) (by omega) hbo0 hbo1 hd3
      have HD1:=Lib.hid hd1
      have HD2:=Lib.hid (hd2.trans hd4)
      have fin:val (ws.set i (u-(cc+qh*y)%4294967296-bb+4294967296*bo))-4294967296^(i+1)*((cc+qh*y)/4294967296+bo)=val us-qh*val (vs.take (i+1)):=by
        have h1:=HVS.out (u-(cc+qh*y)%4294967296-bb+4294967296*bo)
        rw [List.take_of_length_le (by rw [List.length_set,HWL.out]; omega),List.take_of_length_le (by rw [HWL.out]; omega)] at h1
        have h2:=HVAL.out
        have h3:=Int.emod_add_mul_ediv (cc+qh*y) 4294967296
        rw [h1,HVV.out,Int.pow_succ]
        exact gs_sub h2 h3
      have FIN:=Lib.hid fin
      have hdig:0≤u-(cc+qh*y)%4294967296-bb+4294967296*bo∧u-(cc+qh*y)%4294967296-bb+4294967296*bo<4294967296:=by omega
      have HDIG:=Lib.hid hdig
      clear hd1 hd2 hd3 hd4 fin hdig
      go_wp2
      go_roundw
      case rel =>
        refine ⟨i+1,(cc+qh*y)/4294967296,bo,ws.set i (u-(cc+qh*y)%4294967296-bb+4294967296*bo),by omega,by omega,by omega,hbo0,hbo1,rfl,by rw [HD1.out],by go_num,by rw [List.length_set,HWL.out],zbA hwd _ HDIG.out.1 HDIG.out.2,?_,hKr.set _ _,FIN.out⟩
        rw [HD2.out]
        exact hset _
      case measure=>simp [intOf]; omega
    · obtain rfl:i=vs.length:=by omega
      obtain ⟨hc1,hf1⟩:=hWr.at_ (j:=vs.length) (by rw [HWL.out]; omega)
      have hbu:=hwd.rd (vs.length:Int)
      have hset:=hWr.set (j:=vs.length) (by rw [HWL.out]; omega)
      have hvs:=fun v=>zcA (zs:=ws) (j:=vs.length) (N:=vs.length+1) (by omega) (by rw [HWL.out]; omega) v
      have htk:=zao (xs:=ws) (i:=vs.length) (by rw [HWL.out]; omega)
      rw [List.take_of_length_le (by rw [HWL.out]; omega)] at htk
      have HVS:=Lib.hid hvs
      have HTK:=Lib.hid htk
      clear hvs htk
      generalize rd ws (vs.length:Int)=u at hc1 hbu HVS HTK
      obtain ⟨hbu0,hbu1⟩:=hbu
      obtain ⟨bo,hbo0,hbo1,hd1,hd2,hd3⟩:=dword u cc bb ⟨hbu0,hbu1⟩ ⟨hcc0,hcc1⟩ ⟨hbb0,hbb1⟩
      have hlow : -4294967296≤u-cc-bb:=by
        have h1:=HVAL.out
        rw [List.take_length,HTK.out] at h1
        have h2:=zbH (hwd.take vs.length)
        rw [List.length_take,Nat.min_eq_left (by rw [HWL.out]; omega)] at h2
        have h3:=zbH dv
        have h4:=zap du
        have h5:=zap dv
        have h6:qh*val vs≤4294967295*val vs:=Int.mul_le_mul_of_nonneg_right hq1 h5
        generalize (4294967296:Int)^vs.length=P at *
        apply Classical.byContradiction
        intro hn2
        have h7:P*(u-cc-bb)≤P*(-4294967297):=Int.mul_le_mul_of_nonneg_left (by omega) (by omega)
        have h8:P*(u-cc-bb)=P*u-P*(cc+bb):=by grind
        omega
      have hd4:=mod_borrow (u-cc-bb) bo hlow (by omega) hbo0 hbo1 hd3
      have HD1:=Lib.hid hd1
      have HD2:=Lib.hid (hd2.trans hd4)
      have fin:val (ws.set vs.length (u-cc-bb+4294967296*bo))=val us-qh*val vs+4294967296^(vs.length+1)*bo:=by
        have h1:=HVS.out (u-cc-bb+4294967296*bo)
        rw [List.take_of_length_le (by rw [List.length_set,HWL.out]; omega),List.take_of_length_le (by rw [HWL.out]; omega)] at h1
        have h2:=HVAL.out
        rw [List.take_length] at h2
        rw [h1,Int.pow_succ]
        exact gs_top h2
      have FIN:=Lib.hid fin
      have hdig:0≤u-cc-bb+4294967296*bo∧u-cc-bb+4294967296*bo<4294967296:=by omega
      have HDIG:=Lib.hid hdig
      have hset2:=hset (u-cc-bb+4294967296*bo)
      have hK2:=hKr.set (pre.length+vs.length) (.int .u32 (u-cc-bb+4294967296*bo))
      have hwd2:=zbA hwd vs.length hdig.1 hdig.2
      have HWL2:=Lib.hid (show (ws.set vs.length (u-cc-bb+4294967296*bo)).length=vs.length+1 by rw [List.length_set,HWL.out])
      generalize ws.set vs.length (u-cc-bb+4294967296*bo)=ws2 at FIN hset2 hwd2 HWL2
      clear hd1 hd2 hd3 hd4 fin hdig hlow hset HVAL HVS HTK hwd hWr HWL
      go_wp2
      rw [HD2.out,HD1.out]
      have hbe:(bo == 1)=decide (bo=1):=by rw [Bool.eq_iff_iff]; simp
      rw [hbe]
      generalize hq:wr.setCell ⟨g,pre.length+vs.length,none⟩ (.int .u32 (u-cc-bb+4294967296*bo))=w2 at hset2 hK2 ⊢
      have hlo:(if decide (bo=1)=true then (4294967296:Int)^(vs.length+1) else 0)=4294967296^(vs.length+1)*bo:=by
        rcases (show bo=0∨bo=1 by omega) with h|h<;>subst h<;>simp
      have HLO:=Lib.hid hlo
      clear hq hbe hlo HD1 HD2 hc1 hf1 HDIG
      generalize decide (bo=1)=low at HLO ⊢
      clear hKr
      go_loopw [6,7,13] (fun vq vc vl wr=>∃ (q cc:Int) (lo:Bool) (ws:List Int),0≤q∧q≤4294967295∧vq = .int .u64 q∧vc = .int .u64 cc∧vl = .bool lo∧ws.length=vs.length+1∧Wd ws∧Win wr base g N cap pre ws post∧KeepB w wr g ∧
          val ws=val us-q*val vs+(if lo=true then 4294967296^(vs.length+1) else 0)∧val us<(q+1)*val vs) (fun vq _ _ _=>(intOf vq).toNat)
      case atStart=>exact ⟨qh,cc,low,ws2,hq0,hq1,rfl,rfl,rfl,HWL2.out,hwd2,hset2,hK2,by rw [HLO.out]; exact FIN.out,HQ2.out⟩
      case round =>
        clear hset2 hK2 hwd2 HWL2 FIN HLO
        obtain ⟨q,c2,lo,ws,hq0',hq1',rfl,rfl,rfl,hwl,hwd,hWr,hKr,hval,hqq⟩:=hrel
        have HWL:=Lib.hid hwl
        have HVAL:=Lib.hid hval
        have HQQ:=Lib.hid hqq
        clear hwl hval hqq
        cases lo
        · have hx:=HVAL.out
          rw [if_neg (by decide),Int.add_zero] at hx
          have hx2:=gs_out hx HQQ.out
          have HX:=Lib.hid hx2
          clear hx hx2
          have hqm:q%4294967296=q:=Int.emod_eq_of_lt hq0' (by omega)
          have HQM:=Lib.hid hqm
          clear hqm
          go_wp2
          go_ret
          exact ⟨q,ws,by first|rfl|(rw [HQM.out])|(simp [HQM.out]),hq0',by omega,HWL.out,hwd,hWr,hKr,HX.out.1,HX.out.2⟩
        · have hx:=HVAL.out
          rw [if_pos rfl] at hx
          have hneg:val us-q*val vs<0:=by
            have:=zbH hwd
            rw [HWL.out] at this
            omega
          have hq1p:1≤q:=by
            rcases (show q=0∨1≤q by omega) with h|h
            · subst h
              have:=zap du
              omega
            · exact h
          have HX:=Lib.hid hx
          have HNEG:=Lib.hid hneg
          clear hx hneg
          go_wp2
          obtain ⟨wo,rfl⟩:∃ wo:World,wo=wr:=⟨_,rfl⟩
          go_loopw [7,94] (fun vc vk wr=>∃ (k:Nat) (cc:Int) (z:List Int),k≤vs.length∧0≤cc∧cc≤1∧vc = .int .u64 cc∧vk = .int .i64 k∧z.length=vs.length+1∧Wd z∧Win wr base g N cap pre z post∧KeepB w wr g ∧
              val z+4294967296^k*cc=val ws+val (vs.take k)) (fun _ vk _=>vs.length-(intOf vk).toNat)
          case atStart=>exact ⟨0,0,ws,by omega,by omega,by omega,rfl,rfl,HWL.out,hwd,hWr,hKr,by simp [val]⟩
          case round =>
            clear hWr hKr
            obtain ⟨k,cc,z,hk,hc0,hc1,rfl,rfl,hzl,hzd,hWr,hKr,hzv⟩:=hrel
            have HZL:=Lib.hid hzl
            have HZV:=Lib.hid hzv
            clear hzl hzv
            by_cases hkl:k<vs.length
            · obtain ⟨hx1,hx2⟩:=hWr.at_ (j:=k) (by rw [HZL.out]; omega)
              have hx3:=(hv.keepB hKr hne).cell (j:=k) hkl
              rw [zaO] at hx3
              have hbu:=hzd.rd (k:Int)
              have hbv:=dv.rd (k:Int)
              have hvv:=zao (xs:=vs) hkl
              have HVV:=Lib.hid hvv
              clear hvv
              have hset:=hWr.set (j:=k) (by rw [HZL.out]; omega)
              have hvs:=fun v=>zcA (zs:=z) (j:=k) (N:=vs.length+1) (by omega) (by rw [HZL.out]; omega) v
              have HVS:=Lib.hid hvs
              clear hvs
              generalize rd z (k:Int)=u at hx1 hbu HVS
              generalize rd vs (k:Int)=y at hx3 hbv HVV
              obtain ⟨hbu0,hbu1⟩:=hbu
              obtain ⟨hbv0,hbv1⟩:=hbv
              have fin:val (z.set k ((cc+(u+y))%4294967296))+4294967296^(k+1)*((cc+(u+y))/4294967296)=val ws+val (vs.take (k+1)):=by
                have h1:=HVS.out ((cc+(u+y))%4294967296)
                rw [List.take_of_length_le (by rw [List.length_set,HZL.out]; omega),List.take_of_length_le (by rw [HZL.out]; omega)] at h1
                have h2:=HZV.out
                have h3:=Int.emod_add_mul_ediv (cc+(u+y)) 4294967296
                rw [HVV.out,Int.pow_succ]
                exact gs_add (V:=0) h1 h2 h3
              have FIN:=Lib.hid fin
              clear fin
              go_wp2
              go_roundw
              case rel=>exact ⟨k+1,(cc+(u+y))/4294967296,_,by omega,by omega,by omega,rfl,by go_num,by rw [List.length_set,HZL.out],zbA hzd _ (by omega) (by omega),hset _,hKr.set _ _,FIN.out⟩
              case measure=>simp [intOf]; omega
            · obtain rfl:k=vs.length:=by omega
              obtain ⟨hx1,hx2⟩:=hWr.at_ (j:=vs.length) (by rw [HZL.out]; omega)
              have hbu:=hzd.rd (vs.length:Int)
              have hset:=hWr.set (j:=vs.length) (by rw [HZL.out]; omega)
              have hvs:=fun v=>zcA (zs:=z) (j:=vs.length) (N:=vs.length+1) (by omega) (by rw [HZL.out]; omega) v
              have HVS:=Lib.hid hvs
              clear hvs
              generalize rd z (vs.length:Int)=u at hx1 hbu HVS
              obtain ⟨hbu0,hbu1⟩:=hbu
              have hbe:((cc+u)/4294967296 == 0)=decide ((cc+u)/4294967296=0):=by rw [Bool.eq_iff_iff]; simp
              have fin:val (z.set vs.length ((cc+u)%4294967296))=val us-(q-1)*val vs+(if decide ((cc+u)/4294967296=0)=true then (4294967296:Int)^(vs.length+1) else 0)∧val us<(q-1+1)*val vs:=by
                refine ⟨?_,?_⟩
                · have h1:=HVS.out ((cc+u)%4294967296)
                  rw [List.take_of_length_le (by rw [List.length_set,HZL.out]; omega),List.take_of_length_le (by rw [HZL.out]; omega)] at h1
                  have h2:=HZV.out
                  rw [List.take_length] at h2
                  have h3:=Int.emod_add_mul_ediv (cc+u) 4294967296
                  have h4:=HX.out
                  rw [h1]
                  have hs:(cc+u)/4294967296=0∨(cc+u)/4294967296=1:=by omega
                  rw [Int.pow_succ] at h4 ⊢
                  exact gs_end h2 h3 h4 hs
                · have h1:=HNEG.out
                  have h2:(q-1+1)*val vs=q*val vs:=by rw [Int.sub_add_cancel]
                  omega
              have FIN:=Lib.hid fin
              have HBE:=Lib.hid hbe
              clear fin hbe
              go_wp2
              go_roundw
              case rel=>exact ⟨q-1,cc+u,_,_,by omega,by omega,rfl,rfl,by rw [HBE.out],by rw [List.length_set,HZL.out],zbA hzd _ (by omega) (by omega),hset _,hKr.set _ _,FIN.out.1,FIN.out.2⟩
              case measure=>simp [intOf]; omega
end Go.Proofs.ZP
end
