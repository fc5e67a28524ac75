/- Texts under the proof, joined by a program (prune.py): HGuess. -/
import Derived.Test.YtglaeambknhjlaaGreatDoorCRatReckons02
set_option linter.unusedVariables false
set_option linter.unusedSimpArgs false
set_option exponentiation.threshold 20001
set_option maxHeartbeats 8000000
set_option maxRecDepth 100000
section
set_option linter.unusedVariables false
namespace Go.Proofs.P9
open Go.RowKit Go.Proofs.W9.Wa
structure KeepB (w w':World) (g:Nat):Prop where
  os:w'.os=w.os
  tape:w'.tape=w.tape
  output:w'.output=w.output
  size:w.heap.size≤w'.heap.size
  other:∀ k,k<w.heap.size→k≠g→w'.heap[k]? = w.heap[k]?
theorem KeepB.refl (w:World) (g:Nat):KeepB w w g:=⟨rfl,rfl,rfl,Nat.le_refl _,fun _ _ _=>rfl⟩
theorem KeepB.trans {w w1 w2:World} {g:Nat} (h:KeepB w w1 g) (k:KeepB w1 w2 g):KeepB w w2 g:=
  ⟨k.os.trans h.os,k.tape.trans h.tape,k.output.trans h.output,Nat.le_trans h.size k.size,fun i hi hne=>(k.other i (Nat.lt_of_lt_of_le hi h.size) hne).trans (h.other i hi hne)⟩
theorem KeepB.set {w w1:World} {g:Nat} (h:KeepB w w1 g) (j:Nat) (u:Value):KeepB w (w1.setCell ⟨g,j,none⟩ u) g:=
  h.trans ⟨rfl,rfl,rfl,by simp [World.setCell],fun k _ hne=>Below.heap_setCell w1 ⟨g,j,none⟩ u k hne⟩
theorem KeepB.drewN {w w1:World} {g:Nat} (h:KeepB w w1 g) (n:Nat):KeepB w (w1.drewN n) g:=h.trans ⟨rfl,rfl,rfl,Nat.le_refl _,fun _ _ _=>rfl⟩
theorem KeepB.below {w0 w w':World} {g:Nat} (h:Below w0.heap.size w0 w) (k:KeepB w w' g) (hg:w0.heap.size≤g):Below w0.heap.size w0 w':=
  ⟨k.os.trans h.os,k.tape.trans h.tape,k.output.trans h.output,Nat.le_trans h.size k.size,fun i hi=>(k.other i (Nat.lt_of_lt_of_le hi h.size) (by omega)).trans (h.block i hi)⟩
theorem WAt.keepB {w w':World} {A:Option Addr} {c g:Nat} {ws:List Int} (h:WAt w A c ws) (k:KeepB w w' g) (hne:∀ ad,A=Option.some ad→ad.block≠g):WAt w' A c ws where
  le:=h.le
  row:=⟨h.row.1,h.row.2.1,fun hn=>by
    obtain ⟨ad,he,hc⟩:=h.row.2.2 hn
    obtain ⟨cs,hb⟩:=h.typ ad he
    refine ⟨ad,he,fun j p hp => ?_⟩
    obtain ⟨c',h1,h2,h3⟩:=hc j p hp
    refine ⟨c',h1,h2,fun i u hu => ?_⟩
    rw [←h3 i u hu]
    exact World.cell?_of_block (w:=w) (by rw [zdE]; exact k.other _ (zaq hb) (hne ad he))⟩
  typ:=fun ad he=>by
    obtain ⟨cs,hb⟩:=h.typ ad he
    exact ⟨cs,(k.other _ (zaq hb) (hne ad he)).trans hb⟩
def Win (w:World) (base g N cap:Nat) (pre us post:List Int):Prop:=w.ownsRow base 171 1 (.slice (some ⟨g,0,none⟩) N cap) N (nums .u32 (pre++us++post))
theorem rd_win (pre us post:List Int) {j:Nat} (hj:j<us.length):rd (pre++us++post) ((pre.length+j:Nat):Int)=rd us (j:Int):=by
  rw [rd_lt (by simp; omega),rd_lt hj,List.getElem_append_left (by simp; omega),List.getElem_append_right (by omega)]
  simp
theorem set_win (pre us post:List Int) {j:Nat} (hj:j<us.length) (v:Int):(pre++us++post).set (pre.length+j) v=pre++us.set j v++post:=by
  rw [List.set_append_left _ _ (by simp; omega),List.set_append_right _ _ (by omega),Nat.add_sub_cancel_left]
theorem Win.len {w:World} {base g N cap:Nat} {pre us post:List Int} (h:Win w base g N cap pre us post):(pre++us++post).length=N:=by
  have:=h.1; rw [nums_length] at this; omega
theorem Win.at_ {w:World} {base g N cap:Nat} {pre us post:List Int} (h:Win w base g N cap pre us post) {j:Nat} (hj:j<us.length) :
    w.cell? ⟨g,pre.length+j,none⟩=some (.int .u32 (rd us (j:Int)))∧w.frozen? ⟨g,pre.length+j,none⟩=false:=by
  have hl:=h.len
  have:=zb6 h ((pre.length+j:Nat):Int) (by omega) (by simp at hl; omega)
  rw [Int.toNat_natCast,rd_win pre us post hj] at this
  exact this
theorem Win.set {w:World} {base g N cap:Nat} {pre us post:List Int} (h:Win w base g N cap pre us post) {j:Nat} (hj:j<us.length) (v:Int) :
    Win (w.setCell ⟨g,pre.length+j,none⟩ (.int .u32 v)) base g N cap pre (us.set j v) post:=by
  have:=(zbc h ((pre.length+j:Nat):Int) v).1
  rw [Int.toNat_natCast,set_win pre us post hj] at this
  exact this
theorem qhat_ok (us vs:List Int) (n:Nat) (hn:0<n) (hus:us.length=n+1) (hvs:vs.length=n) (du:Wd us) (dv:Wd vs) (un um vt:Int) (h1:rd us (n:Int)=un) (h2:rd us ((n-1:Nat):Int)=um) (h3:rd vs ((n-1:Nat):Int)=vt) (hvt:0<vt) (hlt:val us<4294967296*val vs) :
    ∃ qh:Int,(if 4294967295<(un*4294967296+um)/vt then 4294967295 else (un*4294967296+um)/vt)=qh∧0≤qh∧qh≤4294967295∧val us<(qh+1)*val vs:=by
  refine ⟨_,rfl,?_⟩
  have hun:=du.rd (n:Int)
  have hum:=du.rd ((n-1:Nat):Int)
  rw [h1] at hun
  rw [h2] at hum
  have hx0:0≤(un*4294967296+um)/vt:=Int.ediv_nonneg (by omega) (by omega)
  split
  · refine ⟨by decide,by decide,?_⟩
    exact hlt
  · refine ⟨hx0,by omega,?_⟩
    have ha:un*4294967296+um<((un*4294967296+um)/vt+1)*vt:=Int.lt_ediv_add_one_mul_self _ hvt
    generalize (un*4294967296+um)/vt=q at ha hx0 ⊢
    obtain ⟨m,rfl⟩:∃ m,n=m+1:=⟨n-1,by omega⟩
    simp only [Nat.add_sub_cancel] at h2 h3
    have eu:val us=val (us.take m)+4294967296^m*um+4294967296^(m+1)*un:=by
      have e1:=zaw (xs:=us) (i:=m+1) (by omega)
      rw [List.take_of_length_le (by omega),zaw (by omega),h1,h2] at e1
      exact e1
    have ev:val vs=val (vs.take m)+4294967296^m*vt:=by
      have e1:=zaw (xs:=vs) (i:=m) (by omega)
      rw [List.take_of_length_le (by omega),h3] at e1
      exact e1
    have bu:=zb5 (du.take m)
    rw [List.length_take,Nat.min_eq_left (by omega)] at bu
    have bv:=zaA (dv.take m)
    have hp:(0:Int)<4294967296^m:=Int.pow_pos (by decide)
    have h5:4294967296^m*(un*4294967296+um+1)≤4294967296^m*((q+1)*vt):=Int.mul_le_mul_of_nonneg_left (by omega) (by omega)
    have h6:0≤(q+1)*val (vs.take m):=Int.mul_nonneg (by omega) bv
    rw [eu,ev,Int.pow_succ]
    generalize (4294967296:Int)^m=P at *
    have e7:P*(un*4294967296+um+1)=P*um+P*4294967296*un+P:=by grind
    have e8:(q+1)*(val (vs.take m)+P*vt)=(q+1)*val (vs.take m)+P*((q+1)*vt):=by grind
    omega
theorem and_mask (x:Int) (h0:0≤x) (h1:x<18446744073709551616):Go.bits .and .u64 x 4294967295=x%4294967296:=by
  obtain ⟨X,rfl⟩:=Int.eq_ofNat_of_zero_le h0
  rw [show (4294967295:Int)=((4294967295:Nat):Int) from rfl,bits_and_u64_nat _ _ (by omega) (by decide)]
  have:=Nat.and_two_pow_sub_one_eq_mod X 32
  simp only [show (2:Nat)^32-1=4294967295 from rfl,show (2:Nat)^32=4294967296 from rfl] at this
  rw [this]; omega
theorem dword (u m b:Int) (hu:0≤u∧u<4294967296) (hm:0≤m∧m<4294967296) (hb:0≤b∧b≤1) :
    ∃ bo:Int,0≤bo∧bo≤1∧IntKind.u64.wrap (IntKind.u64.wrap (u-m)-b)/9223372036854775808=bo∧IntKind.u64.wrap (IntKind.u64.wrap (u-m)-b)%4294967296=(u-m-b)%4294967296∧(bo=1↔u-m-b<0):=by
  refine ⟨_,?_,?_,rfl,?_,?_⟩<;>(simp only [IntKind.wrap_u64]; omega)
theorem mod_borrow (d bo:Int) (h0 : -4294967296≤d) (h1:d<4294967296) (hb0:0≤bo) (hb1:bo≤1) (h:bo=1↔d<0):d%4294967296=d+4294967296*bo:=by omega
theorem gs_out {q us vs ws:Int} (hx:ws=us-q*vs) (h1:us<(q+1)*vs):us=q*vs+ws∧ws<vs:=by
  have h2:(q+1)*vs=q*vs+vs:=by rw [Int.add_mul,Int.one_mul]
  omega
theorem gs_add {P Z W V T u y cc r s z':Int} (h1:z'=Z+P*(r-u)) (h2:Z+P*cc=W+T) (h3:r+4294967296*s=cc+(u+y)):z'+P*4294967296*s=W+(T+P*y):=by grind
theorem gs_sub {P Z us qh T u y cc bb m s bo:Int} (h2:Z-P*(cc+bb)=us-qh*T) (h3:m+4294967296*s=cc+qh*y):Z+P*(u-m-bb+4294967296*bo-u)-P*4294967296*(s+bo)=us-qh*(T+P*y):=by grind
theorem gs_top {P Z us qh V u cc bb bo:Int} (h2:Z-P*(cc+bb)=us-qh*V):Z+P*(u-cc-bb+4294967296*bo-u)=us-qh*V+P*4294967296*bo:=by grind
theorem gs_end {P Z W us q V u cc m s:Int} (h2:Z+P*cc=W+V) (h3:m+4294967296*s=cc+u) (h4:W=us-q*V+P*4294967296) (hs:s=0∨s=1):Z+P*(m-u)=us-(q-1)*V+(if decide (s=0)=true then P*4294967296 else 0):=by
  rcases hs with hs|hs<;>subst hs<;>simp<;>grind
theorem guess_calls (g N cap cu base:Nat) (pre us post vs:List Int) (A:Option Addr) (c:Nat) (w:World) (hW:Win w base g N cap pre us post) (hv:WAt w A c vs) (hne:∀ ad,A=some ad→ad.block≠g) (hus:us.length=vs.length+1) (hn:0<vs.length)
    (du:Wd us) (dv:Wd vs) (htop:rd vs ((vs.length-1:Nat):Int)≠0) (hlt:val us<4294967296*val vs) (hcu:vs.length+1≤cu) (hmax:vs.length≤34359738369) :
    Calls Tryz.prog 245 #[.slice (some ⟨g,pre.length,none⟩) (vs.length+1) cu,.slice A vs.length c] w fun e w'=>∃ (q:Int) (us':List Int),e = .returned (.int .u32 q)∧0≤q∧q<4294967296∧us'.length=vs.length+1∧Wd us'∧Win w' base g N cap pre us' post∧KeepB w w' g∧val us=q*val vs+val us'∧val us'<val vs:=by
  obtain ⟨ad,rfl⟩:=hv.ptr hn
  obtain ⟨hc1,hf1⟩:=hW.at_ (j:=vs.length) (by omega)
  obtain ⟨hc2,hf2⟩:=hW.at_ (j:=vs.length-1) (by omega)
  have hc3:=hv.cell (j:=vs.length-1) (by omega)
  rw [zaX] at hc3
  have hb1:=du.rd (vs.length:Int)
  have hb2:=du.rd ((vs.length-1:Nat):Int)
  have hb3:=dv.rd ((vs.length-1:Nat):Int)
  have HUS:=Lib.hid hus
  clear hus
  generalize hg1:rd us (vs.length:Int)=un at hc1 hb1
  generalize hg2:rd us ((vs.length-1:Nat):Int)=um at hc2 hb2
  generalize hg3:rd vs ((vs.length-1:Nat):Int)=vt at hc3 hb3 htop
  have HG1:=Lib.hid hg1
  have HG2:=Lib.hid hg2
  have HG3:=Lib.hid hg3
  clear hg1 hg2 hg3
  have hor:=or_join un um hb1 hb2
  rw [u64w (by omega) (by omega),u64w (by omega) (by omega)] at hor
  have hvt:(vt == 0)=false:=beq_eq_false_iff_ne.2 htop
  obtain ⟨hb10,hb11⟩:=hb1
  obtain ⟨hb20,hb21⟩:=hb2
  obtain ⟨hb30,hb31⟩:=hb3
  obtain ⟨qh,hqh,hq0,hq1,hq2⟩:=qhat_ok us vs vs.length hn HUS.out rfl du dv un um vt HG1.out HG2.out HG3.out (by omega) hlt
  have HQH:=Lib.hid hqh
  have HQ2:=Lib.hid hq2
  clear hqh hq2
  have hwr:IntKind.i64.wrap ((vs.length:Int)-1)=(vs.length:Int)-1:=IntWalk.i64_in _ (by omega)
  have hwr2:IntKind.u64.wrap (un*4294967296)=un*4294967296:=u64w (by omega) (by omega)
  have ht1:((vs.length:Int)-1).toNat=vs.length-1:=by omega
  have hi1:0≤(vs.length:Int)-1:=by omega
  have hi2:(vs.length:Int)-1<(vs.length:Int)+1:=by omega
  have hi3:(vs.length:Int)-1<(vs.length:Int):=by omega
  go_enter Tryz.func245,Tryz.ntmps245
  go_wp2_with fail
  go_quiet (fail)
  generalize hq:w.drewN _=w1
  have hW1:Win w1 base g N cap pre us post:=by subst hq; exact hW
  have hK1:KeepB w w1 g:=by subst hq; exact (KeepB.refl _ _).drewN _
  rw [HQH.out]
  clear hq hor hvt htop hwr hwr2 ht1 hi1 hi2 hi3 hc1 hc2 hc3 hf1 hf2 hb10 hb11 hb20 hb21 hb30 hb31 HG1 HG2 HG3 HQH
  go_wp2
  go_loopw [7,8,41] (fun vc vb vi wr=>∃ (i:Nat) (cc bb:Int) (ws:List Int),i≤vs.length∧0≤cc∧cc<4294967296∧0≤bb∧bb≤1∧vc = .int .u64 cc∧vb = .int .u64 bb∧vi = .int .i64 i∧ws.length=vs.length+1∧Wd ws∧Win wr base g N cap pre ws post∧KeepB w wr g ∧
      val ws-4294967296^i*(cc+bb)=val us-qh*val (vs.take i)) (fun _ _ vi _=>vs.length-(intOf vi).toNat)
  case atStart=>exact ⟨0,0,0,us,by omega,by omega,by omega,by omega,by omega,rfl,rfl,rfl,HUS.out,du,hW1,hK1,by simp [val]⟩
  case round =>
    obtain ⟨i,cc,bb,ws,hi,hcc0,hcc1,hbb0,hbb1,rfl,rfl,rfl,hwl,hwd,hWr,hKr,hval⟩:=hrel
    have HWL:=Lib.hid hwl
    have HVAL:=Lib.hid hval
    clear hwl hval
    by_cases hil:i<vs.length
    · obtain ⟨hc1,hf1⟩:=hWr.at_ (j:=i) (by rw [HWL.out]; omega)
      have hc2:=(hv.keepB hKr hne).cell (j:=i) hil
      rw [zaX] at hc2
      have hbu:=hwd.rd (i:Int)
      have hbv:=dv.rd (i:Int)
      have hvv:=zaw (xs:=vs) hil
      have HVV:=Lib.hid hvv
      clear hvv
      have hset:=hWr.set (j:=i) (by rw [HWL.out]; omega)
      have hvs:=fun v=>zc6 (zs:=ws) (j:=i) (N:=vs.length+1) (by omega) (by rw [HWL.out]; omega) v
      have HVS:=Lib.hid hvs
      clear hvs
      generalize rd ws (i:Int)=u at hc1 hbu HVS
      generalize rd vs (i:Int)=y at hc2 hbv HVV
      have hp:=prod_bd (x:=qh) (y:=y) ⟨hq0,by omega⟩ hbv
      obtain ⟨hp0,hp1⟩:=hp
      obtain ⟨hbu0,hbu1⟩:=hbu
      obtain ⟨hbv0,hbv1⟩:=hbv
      have hand:=and_mask (cc+qh*y) (by omega) (by omega)
      obtain ⟨bo,hbo0,hbo1,hd1,hd2,hd3⟩:=dword u ((cc+qh*y)%4294967296) bb ⟨hbu0,hbu1⟩ ⟨by omega,by omega⟩ ⟨hbb0,hbb1⟩
      have hd4:=mod_borrow (u-(cc+qh*y)%4294967296-bb) bo (by omega) (by omega) hbo0 hbo1 hd3
      have HD1:=Lib.hid hd1
      have HD2:=Lib.hid (hd2.trans hd4)
      have fin:val (ws.set i (u-(cc+qh*y)%4294967296-bb+4294967296*bo))-4294967296^(i+1)*((cc+qh*y)/4294967296+bo)=val us-qh*val (vs.take (i+1)):=by
        have h1:=HVS.out (u-(cc+qh*y)%4294967296-bb+4294967296*bo)
        rw [List.take_of_length_le (by rw [List.length_set,HWL.out]; omega),List.take_of_length_le (by rw [HWL.out]; omega)] at h1
        have h2:=HVAL.out
        have h3:=Int.emod_add_mul_ediv (cc+qh*y) 4294967296
        rw [h1,HVV.out,Int.pow_succ]
        exact gs_sub h2 h3
      have FIN:=Lib.hid fin
      have hdig:0≤u-(cc+qh*y)%4294967296-bb+4294967296*bo∧u-(cc+qh*y)%4294967296-bb+4294967296*bo<4294967296:=by omega
      have HDIG:=Lib.hid hdig
      clear hd1 hd2 hd3 hd4 fin hdig
      go_wp2
      go_roundw
      case rel =>
        refine ⟨i+1,(cc+qh*y)/4294967296,bo,ws.set i (u-(cc+qh*y)%4294967296-bb+4294967296*bo),by omega,by omega,by omega,hbo0,hbo1,rfl,by rw [HD1.out],by go_num,by rw [List.length_set,HWL.out],zbX hwd _ HDIG.out.1 HDIG.out.2,?_,hKr.set _ _,FIN.out⟩
        rw [HD2.out]
        exact hset _
      case measure=>simp [intOf]; omega
    · obtain rfl:i=vs.length:=by omega
      obtain ⟨hc1,hf1⟩:=hWr.at_ (j:=vs.length) (by rw [HWL.out]; omega)
      have hbu:=hwd.rd (vs.length:Int)
      have hset:=hWr.set (j:=vs.length) (by rw [HWL.out]; omega)
      have hvs:=fun v=>zc6 (zs:=ws) (j:=vs.length) (N:=vs.length+1) (by omega) (by rw [HWL.out]; omega) v
      have htk:=zaw (xs:=ws) (i:=vs.length) (by rw [HWL.out]; omega)
      rw [List.take_of_length_le (by rw [HWL.out]; omega)] at htk
      have HVS:=Lib.hid hvs
      have HTK:=Lib.hid htk
      clear hvs htk
      generalize rd ws (vs.length:Int)=u at hc1 hbu HVS HTK
      obtain ⟨hbu0,hbu1⟩:=hbu
      obtain ⟨bo,hbo0,hbo1,hd1,hd2,hd3⟩:=dword u cc bb ⟨hbu0,hbu1⟩ ⟨hcc0,hcc1⟩ ⟨hbb0,hbb1⟩
      have hlow : -4294967296≤u-cc-bb:=by
        have h1:=HVAL.out
        rw [List.take_length,HTK.out] at h1
        have h2:=zb5 (hwd.take vs.length)
        rw [List.length_take,Nat.min_eq_left (by rw [HWL.out]; omega)] at h2
        have h3:=zb5 dv
        have h4:=zaA du
        have h5:=zaA dv
        have h6:qh*val vs≤4294967295*val vs:=Int.mul_le_mul_of_nonneg_right hq1 h5
        generalize (4294967296:Int)^vs.length=P at *
        apply Classical.byContradiction
        intro hn2
        have h7:P*(u-cc-bb)≤P*(-4294967297):=Int.mul_le_mul_of_nonneg_left (by omega) (by omega)
        have h8:P*(u-cc-bb)=P*u-P*(cc+bb):=by grind
        omega
      have hd4:=mod_borrow (u-cc-bb) bo hlow (by omega) hbo0 hbo1 hd3
      have HD1:=Lib.hid hd1
      have HD2:=Lib.hid (hd2.trans hd4)
      have fin:val (ws.set vs.length (u-cc-bb+4294967296*bo))=val us-qh*val vs+4294967296^(vs.length+1)*bo:=by
        have h1:=HVS.out (u-cc-bb+4294967296*bo)
        rw [List.take_of_length_le (by rw [List.length_set,HWL.out]; omega),List.take_of_length_le (by rw [HWL.out]; omega)] at h1
        have h2:=HVAL.out
        rw [List.take_length] at h2
        rw [h1,Int.pow_succ]
        exact gs_top h2
      have FIN:=Lib.hid fin
      have hdig:0≤u-cc-bb+4294967296*bo∧u-cc-bb+4294967296*bo<4294967296:=by omega
      have HDIG:=Lib.hid hdig
      have hset2:=hset (u-cc-bb+4294967296*bo)
      have hK2:=hKr.set (pre.length+vs.length) (.int .u32 (u-cc-bb+4294967296*bo))
      have hwd2:=zbX hwd vs.length hdig.1 hdig.2
      have HWL2:=Lib.hid (show (ws.set vs.length (u-cc-bb+4294967296*bo)).length=vs.length+1 by rw [List.length_set,HWL.out])
      generalize ws.set vs.length (u-cc-bb+4294967296*bo)=ws2 at FIN hset2 hwd2 HWL2
      clear hd1 hd2 hd3 hd4 fin hdig hlow hset HVAL HVS HTK hwd hWr HWL
      go_wp2
      rw [HD2.out,HD1.out]
      have hbe:(bo == 1)=decide (bo=1):=by rw [Bool.eq_iff_iff]; simp
      rw [hbe]
      generalize hq:wr.setCell ⟨g,pre.length+vs.length,none⟩ (.int .u32 (u-cc-bb+4294967296*bo))=w2 at hset2 hK2 ⊢
      have hlo:(if decide (bo=1)=true then (4294967296:Int)^(vs.length+1) else 0)=4294967296^(vs.length+1)*bo:=by
        rcases (show bo=0∨bo=1 by omega) with h|h<;>subst h<;>simp
      have HLO:=Lib.hid hlo
      clear hq hbe hlo HD1 HD2 hc1 hf1 HDIG
      generalize decide (bo=1)=low at HLO ⊢
      clear hKr
      go_loopw [6,7,13] (fun vq vc vl wr=>∃ (q cc:Int) (lo:Bool) (ws:List Int),0≤q∧q≤4294967295∧vq = .int .u64 q∧vc = .int .u64 cc∧vl = .bool lo∧ws.length=vs.length+1∧Wd ws∧Win wr base g N cap pre ws post∧KeepB w wr g ∧
          val ws=val us-q*val vs+(if lo=true then 4294967296^(vs.length+1) else 0)∧val us<(q+1)*val vs) (fun vq _ _ _=>(intOf vq).toNat)
      case atStart=>exact ⟨qh,cc,low,ws2,hq0,hq1,rfl,rfl,rfl,HWL2.out,hwd2,hset2,hK2,by rw [HLO.out]; exact FIN.out,HQ2.out⟩
      case round =>
        clear hset2 hK2 hwd2 HWL2 FIN HLO
        obtain ⟨q,c2,lo,ws,hq0',hq1',rfl,rfl,rfl,hwl,hwd,hWr,hKr,hval,hqq⟩:=hrel
        have HWL:=Lib.hid hwl
        have HVAL:=Lib.hid hval
        have HQQ:=Lib.hid hqq
        clear hwl hval hqq
        cases lo
        · have hx:=HVAL.out
          rw [if_neg (by decide),Int.add_zero] at hx
          have hx2:=gs_out hx HQQ.out
          have HX:=Lib.hid hx2
          clear hx hx2
          have hqm:q%4294967296=q:=Int.emod_eq_of_lt hq0' (by omega)
          have HQM:=Lib.hid hqm
          clear hqm
          go_wp2
          go_ret
          exact ⟨q,ws,by first|rfl|(rw [HQM.out])|(simp [HQM.out]),hq0',by omega,HWL.out,hwd,hWr,hKr,HX.out.1,HX.out.2⟩
        · have hx:=HVAL.out
          rw [if_pos rfl] at hx
          have hneg:val us-q*val vs<0:=by
            have:=zb5 hwd
            rw [HWL.out] at this
            omega
          have hq1p:1≤q:=by
            rcases (show q=0∨1≤q by omega) with h|h
            · subst h
              have:=zaA du
              omega
            · exact h
          have HX:=Lib.hid hx
          have HNEG:=Lib.hid hneg
          clear hx hneg
          go_wp2
          obtain ⟨wo,rfl⟩:∃ wo:World,wo=wr:=⟨_,rfl⟩
          go_loopw [7,94] (fun vc vk wr=>∃ (k:Nat) (cc:Int) (z:List Int),k≤vs.length∧0≤cc∧cc≤1∧vc = .int .u64 cc∧vk = .int .i64 k∧z.length=vs.length+1∧Wd z∧Win wr base g N cap pre z post∧KeepB w wr g ∧
              val z+4294967296^k*cc=val ws+val (vs.take k)) (fun _ vk _=>vs.length-(intOf vk).toNat)
          case atStart=>exact ⟨0,0,ws,by omega,by omega,by omega,rfl,rfl,HWL.out,hwd,hWr,hKr,by simp [val]⟩
          case round =>
            clear hWr hKr
            obtain ⟨k,cc,z,hk,hc0,hc1,rfl,rfl,hzl,hzd,hWr,hKr,hzv⟩:=hrel
            have HZL:=Lib.hid hzl
            have HZV:=Lib.hid hzv
            clear hzl hzv
            by_cases hkl:k<vs.length
            · obtain ⟨hx1,hx2⟩:=hWr.at_ (j:=k) (by rw [HZL.out]; omega)
              have hx3:=(hv.keepB hKr hne).cell (j:=k) hkl
              rw [zaX] at hx3
              have hbu:=hzd.rd (k:Int)
              have hbv:=dv.rd (k:Int)
              have hvv:=zaw (xs:=vs) hkl
              have HVV:=Lib.hid hvv
              clear hvv
              have hset:=hWr.set (j:=k) (by rw [HZL.out]; omega)
              have hvs:=fun v=>zc6 (zs:=z) (j:=k) (N:=vs.length+1) (by omega) (by rw [HZL.out]; omega) v
              have HVS:=Lib.hid hvs
              clear hvs
              generalize rd z (k:Int)=u at hx1 hbu HVS
              generalize rd vs (k:Int)=y at hx3 hbv HVV
              obtain ⟨hbu0,hbu1⟩:=hbu
              obtain ⟨hbv0,hbv1⟩:=hbv
              have fin:val (z.set k ((cc+(u+y))%4294967296))+4294967296^(k+1)*((cc+(u+y))/4294967296)=val ws+val (vs.take (k+1)):=by
                have h1:=HVS.out ((cc+(u+y))%4294967296)
                rw [List.take_of_length_le (by rw [List.length_set,HZL.out]; omega),List.take_of_length_le (by rw [HZL.out]; omega)] at h1
                have h2:=HZV.out
                have h3:=Int.emod_add_mul_ediv (cc+(u+y)) 4294967296
                rw [HVV.out,Int.pow_succ]
                exact gs_add (V:=0) h1 h2 h3
              have FIN:=Lib.hid fin
              clear fin
              go_wp2
              go_roundw
              case rel=>exact ⟨k+1,(cc+(u+y))/4294967296,_,by omega,by omega,by omega,rfl,by go_num,by rw [List.length_set,HZL.out],zbX hzd _ (by omega) (by omega),hset _,hKr.set _ _,FIN.out⟩
              case measure=>simp [intOf]; omega
            · obtain rfl:k=vs.length:=by omega
              obtain ⟨hx1,hx2⟩:=hWr.at_ (j:=vs.length) (by rw [HZL.out]; omega)
              have hbu:=hzd.rd (vs.length:Int)
              have hset:=hWr.set (j:=vs.length) (by rw [HZL.out]; omega)
              have hvs:=fun v=>zc6 (zs:=z) (j:=vs.length) (N:=vs.length+1) (by omega) (by rw [HZL.out]; omega) v
              have HVS:=Lib.hid hvs
              clear hvs
              generalize rd z (vs.length:Int)=u at hx1 hbu HVS
              obtain ⟨hbu0,hbu1⟩:=hbu
              have hbe:((cc+u)/4294967296 == 0)=decide ((cc+u)/4294967296=0):=by rw [Bool.eq_iff_iff]; simp
              have fin:val (z.set vs.length ((cc+u)%4294967296))=val us-(q-1)*val vs+(if decide ((cc+u)/4294967296=0)=true then (4294967296:Int)^(vs.length+1) else 0)∧val us<(q-1+1)*val vs:=by
                refine ⟨?_,?_⟩
                · have h1:=HVS.out ((cc+u)%4294967296)
                  rw [List.take_of_length_le (by rw [List.length_set,HZL.out]; omega),List.take_of_length_le (by rw [HZL.out]; omega)] at h1
                  have h2:=HZV.out
                  rw [List.take_length] at h2
                  have h3:=Int.emod_add_mul_ediv (cc+u) 4294967296
                  have h4:=HX.out
                  rw [h1]
                  have hs:(cc+u)/4294967296=0∨(cc+u)/4294967296=1:=by omega
                  rw [Int.pow_succ] at h4 ⊢
                  exact gs_end h2 h3 h4 hs
                · have h1:=HNEG.out
                  have h2:(q-1+1)*val vs=q*val vs:=by rw [Int.sub_add_cancel]
                  omega
              have FIN:=Lib.hid fin
              have HBE:=Lib.hid hbe
              clear fin hbe
              go_wp2
              go_roundw
              case rel=>exact ⟨q-1,cc+u,_,_,by omega,by omega,rfl,rfl,by rw [HBE.out],by rw [List.length_set,HZL.out],zbX hzd _ (by omega) (by omega),hset _,hKr.set _ _,FIN.out.1,FIN.out.2⟩
              case measure=>simp [intOf]; omega
end Go.Proofs.P9
end
