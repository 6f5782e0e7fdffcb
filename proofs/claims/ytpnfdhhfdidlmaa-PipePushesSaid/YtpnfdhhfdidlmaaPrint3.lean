import Derived.Test.YtpnfdhhfdidlmaaPrint0
namespace Go.Proofs.Ytpnfdhhfdidlmaa.Print
open Go.RowKit Go.Proofs.YtpnfdhhfdidlmaaW.PrintWords Go.Proofs.YtpnfdhhfdidlmaaW.PrintLast Go.Proofs.YtpnfdhhfdidlmaaW.PrintMore
attribute [local go_sem] max2_int min2_int max_two min_two max_three min_three max_four min_four
set_option linter.unusedVariables false
set_option maxRecDepth 100000
set_option maxHeartbeats 8000000
set_option linter.unusedSimpArgs false

def Azy.l0:Nat→List Int→List Int→Int→Option (Bool)
 | 0,_,_,_=>none
 | k+1,x0,x1,x5=>if x5 < (x0.length:Int) then(if 0≤x5 then(if x5 < (x1.length:Int) then(if(rd x0 x5)=(rd x1 x5) then(Azy.l0 k x0 x1 (wrap64 (x5+1))) else(some false)) else(none)) else(none)) else(some true)
def Azy.f (k:Nat) (l0:List Int) (l1:List Int):Option (Bool):=if(l0.length:Int)=(l1.length:Int) then(Azy.l0 k l0 l1 0) else(some false)
theorem Azy.mono_l:∀ k,(∀ y0 y1 y2,LeO (Azy.l0 k y0 y1 y2) (Azy.l0 (k+1) y0 y1 y2))
 | 0=>fun _ _ _ r h=>by simp [Azy.l0] at h
 | k+1=>by
  have ih0:=Azy.mono_l k
  ·intro y0 y1 y2;unfold Azy.l0;with_reducible repeat' first|exact ih0 _ _ _|exact LeO.refl _|exact LeO.none _|refine LeO.ite ?_ ?_|refine LeO.bind ?_ (fun _=>?_)
theorem Azy.mono:∀ a0 a1 k,LeO (Azy.f k a0 a1) (Azy.f (k+1) a0 a1):=by
 intro a0 a1 k;have ih0:=Azy.mono_l k;unfold Azy.f;with_reducible repeat' first|exact ih0 _ _ _|exact LeO.refl _|exact LeO.none _|refine LeO.ite ?_ ?_|refine LeO.bind ?_ (fun _=>?_)
theorem Azy.calls (k:Nat) (A0:Option Addr) (c0:Nat) (l0:List Int) (A1:Option Addr) (c1:Nat) (l1:List Int) (r:Bool) (w:World) (hr0:Kd.C (Kd.int .i64) w A0 l0.length l0) (hc0:l0.length≤c0) (hr1:Kd.C (Kd.int .i64) w A1 l1.length l1) (hc1:l1.length≤c1) (h:Azy.f k l0 l1=some r) :
  Calls Try.prog 20 #[.slice A0 l0.length c0,.slice A1 l1.length c1] w fun e w'=>e=.returned (.bool r)∧Drawn0 w w':=by
 have HR0:=aM hr0;have HC0:=aM hc0;clear hr0 hc0;have HR1:=aM hr1;have HC1:=aM hc1;clear hr1 hc1;have H:(if(l0.length:Int)=(l1.length:Int) then(Azy.l0 k l0 l1 0) else(some false))=some r:=h
 clear h;by_cases c3:(l0.length:Int)=(l1.length:Int)
 ·rw[if_pos c3] at H;have c3b0:((l0.length:Int) == (l1.length:Int))=true:=beq_iff_eq.mpr c3;have c3b1:((l0.length:Int) != (l1.length:Int))=false:=bne_eq_false_iff_eq.mpr c3;have c3b2:(l0.length == l1.length)=true:=by first|simpa using c3|(simp at c3 ⊢;omega)
  clear c3;have H':=aM H;clear H;go_enter Try.func20,Try.ntmps20
  go_wp2
  repeat(go_quiet (fail);try go_wp2)
  go_loopg [5] k (fun kq v5 w'=>∃ (x5_1:Int),v5=.int .i64 x5_1∧Aside0 (Azy.l0 kq l0 l1 x5_1=some r)∧Aside0 (kq≤k)∧Drawn0 w w')
  case atStart=>exact⟨(0),sD,H',⟨Nat.le_refl _⟩,by repeat(first|exact Drawn0.refl _|apply Drawn0.step)⟩
  case round =>
   clear H';try clear c1
   try clear c2
   try clear p2
   try clear c3
   try clear c3b0
   try clear c3b1
   try clear c3b2
   obtain⟨x5_1,rfl,HA,HK1,⟨m1,rfl⟩⟩:=hrel;cases gk with
   | zero=>exact absurd HA.out (by simp [Azy.l0])
   | succ k1 =>
    have H:=HA.out;clear HA;simp only[Azy.l0] at H;by_cases c4:x5_1 < (l0.length:Int)
    ·rw[if_pos c4] at H;have c4b0:decide (x5_1 < (l0.length:Int))=true:=dE c4;clear c4;by_cases c5:0≤x5_1
     ·rw[if_pos c5] at H;have c5b0:decide (0≤x5_1)=true:=dE c5;clear c5;by_cases c6:x5_1 < (l1.length:Int)
      ·rw[if_pos c6] at H;have c6b0:decide (x5_1 < (l1.length:Int))=true:=dE c6;clear c6;by_cases c7:(rd l0 x5_1)=(rd l1 x5_1)
       ·rw[if_pos c7] at H;have c7b0:((rd l0 x5_1) == (rd l1 x5_1))=true:=beq_iff_eq.mpr c7;have c7b1:((rd l0 x5_1) != (rd l1 x5_1))=false:=bne_eq_false_iff_eq.mpr c7;clear c7;have H':=aM H;clear H;have p126:0≤(x5_1:Int):=oE aS
        have q126:x5_1 < (l0.length:Int):=oE aS
        obtain⟨ad126,e126,hx126_0⟩:=Kd.at_int HR0.out x5_1 p126 q126;cases e126
        replace p126:=eq_true p126;replace q126:=eq_true q126;have p127:0≤(x5_1:Int):=oE aS
        have q127:x5_1 < (l1.length:Int):=oE aS
        obtain⟨ad127,e127,hx127_0⟩:=Kd.at_int HR1.out x5_1 p127 q127;cases e127
        replace p127:=eq_true p127;replace q127:=eq_true q127;go_wp2
        repeat(go_quiet (fail);try go_wp2)
        go_roundg k1
        case measure=>have:=HK1.out;omega
        case rel=>exact⟨(wrap64 (x5_1+1)),sD,H',⟨by have:=HK1.out;omega⟩,by repeat(first|exact Drawn0.refl _|apply Drawn0.step)⟩
       ·rw[if_neg c7] at H;have c7b0:((rd l0 x5_1) == (rd l1 x5_1))=false:=beq_eq_false_iff_ne.mpr c7;have c7b1:((rd l0 x5_1) != (rd l1 x5_1))=true:=bne_iff_ne.mpr c7;obtain rfl:=Option.some.inj H;have p126:0≤(x5_1:Int):=oE aS
        have q126:x5_1 < (l0.length:Int):=oE aS
        obtain⟨ad126,e126,hx126_0⟩:=Kd.at_int HR0.out x5_1 p126 q126;cases e126
        replace p126:=eq_true p126;replace q126:=eq_true q126;have p127:0≤(x5_1:Int):=oE aS
        have q127:x5_1 < (l1.length:Int):=oE aS
        obtain⟨ad127,e127,hx127_0⟩:=Kd.at_int HR1.out x5_1 p127 q127;cases e127
        replace p127:=eq_true p127;replace q127:=eq_true q127;go_wp2
        repeat(go_quiet (fail);try go_wp2)
        go_ret
        exact⟨by first|rfl|(simp;done)|(simp [*];done),by repeat(first|exact Drawn0.refl _|apply Drawn0.step)⟩
      ·rw[if_neg c6] at H;exact absurd H (by simp)
     ·rw[if_neg c5] at H;exact absurd H (by simp)
    ·rw[if_neg c4] at H;have c4b0:decide (x5_1 < (l0.length:Int))=false:=decide_eq_false c4;clear c4;obtain rfl:=Option.some.inj H;go_wp2
     repeat(go_quiet (fail);try go_wp2)
     go_ret
     exact⟨by first|rfl|(simp;done)|(simp [*];done),by repeat(first|exact Drawn0.refl _|apply Drawn0.step)⟩
 ·rw[if_neg c3] at H;have c3b0:((l0.length:Int) == (l1.length:Int))=false:=beq_eq_false_iff_ne.mpr c3;have c3b1:((l0.length:Int) != (l1.length:Int))=true:=bne_iff_ne.mpr c3;have c3b2:(l0.length == l1.length)=false:=by first|simpa using c3|(simp at c3 ⊢;omega)
  obtain rfl:=Option.some.inj H;go_enter Try.func20,Try.ntmps20
  go_wp2
  repeat(go_quiet (fail);try go_wp2)
  go_ret
  exact⟨by first|rfl|(simp;done)|(simp [*];done),by repeat(first|exact Drawn0.refl _|apply Drawn0.step)⟩


mutual
def Azk.j0:Nat→Bool→Int→List (List Int)→Int→List (List Int)→Option (Bool)
 | 0,_,_,_,_,_=>none
 | k+1,x19,x129000,x129001,x130000,x130001=>if x19=true then(some false) else(Azk.l0 k 0 x129000 x129001 x130000 x130001)
def Azk.l0:Nat→Int→Int→List (List Int)→Int→List (List Int)→Option (Bool)
 | 0,_,_,_,_,_=>none
 | k+1,x5,x129000,x129001,x130000,x130001=>if x5 < (x129001.length:Int) then(if 0≤x5 then(if x5 < (x130001.length:Int) then((Azy.f k (rd_L1 x129001 x5) (rd_L1 x130001 x5)).bind fun t132=>(if t132=true then(Azk.l0 k (wrap64 (x5+1)) x129000 x129001 x130000 x130001) else(some false))) else(none)) else(none)) else(some true)
end
def Azk.f (k:Nat) (a0_0:Int) (l0_1:List (List Int)) (a1_0:Int) (l1_1:List (List Int)):Option (Bool):=if a0_0=a1_0 then(Azk.j0 k ((l0_1.length:Int) != (l1_1.length:Int)) a0_0 l0_1 a1_0 l1_1) else(Azk.j0 k true a0_0 l0_1 a1_0 l1_1)
theorem Azk.mono_l:∀ k,(∀ y0 y1 y2 y3 y4,LeO (Azk.j0 k y0 y1 y2 y3 y4) (Azk.j0 (k+1) y0 y1 y2 y3 y4))∧(∀ y0 y1 y2 y3 y4,LeO (Azk.l0 k y0 y1 y2 y3 y4) (Azk.l0 (k+1) y0 y1 y2 y3 y4))
 | 0=>⟨fun _ _ _ _ _ r h=>by simp [Azk.j0] at h,fun _ _ _ _ _ r h=>by simp [Azk.l0] at h⟩
 | k+1=>by
  obtain⟨ih0,ih1⟩:=Azk.mono_l k;refine⟨?_,?_⟩
  ·intro y0 y1 y2 y3 y4;unfold Azk.j0;with_reducible repeat' first|exact ih0 _ _ _ _ _|exact ih1 _ _ _ _ _|exact Azy.mono _ _ _|exact LeO.refl _|exact LeO.none _|refine LeO.ite ?_ ?_|refine LeO.bind ?_ (fun _=>?_)
  ·intro y0 y1 y2 y3 y4;unfold Azk.l0;with_reducible repeat' first|exact ih0 _ _ _ _ _|exact ih1 _ _ _ _ _|exact Azy.mono _ _ _|exact LeO.refl _|exact LeO.none _|refine LeO.ite ?_ ?_|refine LeO.bind ?_ (fun _=>?_)
theorem Azk.mono:∀ a0 a1 a2 a3 k,LeO (Azk.f k a0 a1 a2 a3) (Azk.f (k+1) a0 a1 a2 a3):=by
 intro a0 a1 a2 a3 k;obtain⟨ih0,ih1⟩:=Azk.mono_l k;unfold Azk.f;with_reducible repeat' first|exact ih0 _ _ _ _ _|exact ih1 _ _ _ _ _|exact Azy.mono _ _ _|exact LeO.refl _|exact LeO.none _|refine LeO.ite ?_ ?_|refine LeO.bind ?_ (fun _=>?_)
theorem Azk.calls (k:Nat) (a0_0:Int) (A0_1:Option Addr) (c0_1:Nat) (l0_1:List (List Int)) (a1_0:Int) (A1_1:Option Addr) (c1_1:Nat) (l1_1:List (List Int)) (r:Bool) (w:World) (hr0_1:Kd.C (Kd.slice 3 (Kd.int .i64)) w A0_1 l0_1.length l0_1) (hc0_1:l0_1.length≤c0_1) (hr1_1:Kd.C (Kd.slice 3 (Kd.int .i64)) w A1_1 l1_1.length l1_1) (hc1_1:l1_1.length≤c1_1) (h:Azk.f k a0_0 l0_1 a1_0 l1_1=some r) :
  Calls Try.prog 17 #[.agg #[.int .i64 a0_0,.slice A0_1 l0_1.length c0_1],.agg #[.int .i64 a1_0,.slice A1_1 l1_1.length c1_1]] w fun e w'=>e=.returned (.bool r)∧Below w.heap.size w w':=by
 have hu24:=Try.underlying24;have HR0_1:=aM hr0_1;have HC0_1:=aM hc0_1;clear hr0_1 hc0_1;have HR1_1:=aM hr1_1;have HC1_1:=aM hc1_1;clear hr1_1 hc1_1;have HB:=aM (Below.refl w.heap.size w);have H:(if a0_0=a1_0 then(Azk.j0 k ((l0_1.length:Int) != (l1_1.length:Int)) a0_0 l0_1 a1_0 l1_1) else(Azk.j0 k true a0_0 l0_1 a1_0 l1_1))=some r:=h
 clear h;have HC3:=aM H;clear H;go_enter Try.func17,Try.ntmps17
 go_upto_region 1 with (first|((with_reducible refine gate_dst (N:=2) rfl ?_);(try(refine gate_guard (by rfl) ?_;dsimp only));refine box_event ?hg (N:=2) ?hd (cs:=#[.int .i64 a0_0,.slice A0_1 l0_1.length c0_1]) (t:=24) ?hr ?_;(case hd=>rfl);(case hg=>rfl);(case hr=>first|(go_simp;done)|(go_simp;rfl));intro gb128 hg w4 hbox hb;have BK128:=aM (hbox);have GW128:=aM (gW hg:w.heap.size≤gb128);have GE128:=aM (gW hg:w.heap.size≤gb128);replace HB:=aM (below_step pB hb);clear hb hbox hg)|((with_reducible refine gate_dst (N:=3) rfl ?_);(try(refine gate_guard (by rfl) ?_;dsimp only));refine box_event ?hg (N:=3) ?hd (cs:=#[.int .i64 a1_0,.slice A1_1 l1_1.length c1_1]) (t:=24) ?hr ?_;(case hd=>rfl);(case hg=>rfl);(case hr=>first|(go_simp;done)|(go_simp;rfl));intro gb129 hg w5 hbox hb;have BK129:=aM (hbox);have GW129:=aM (gW hg:w.heap.size≤gb129);have GE129:=aM (gW hg:w.heap.size≤gb129);have NB128_129:=aM (nL hg BK128:gb128≠gb129);have NB129_128:=aM (nG hg BK128:gb129≠gb128);replace BK128:=aM (kB BK128 hb);replace HB:=aM (below_step pB hb);clear hb hbox hg))
 repeat(go_quiet (first|((with_reducible refine gate_dst (N:=2) rfl ?_);(try(refine gate_guard (by rfl) ?_;dsimp only));refine box_event ?hg (N:=2) ?hd (cs:=#[.int .i64 a0_0,.slice A0_1 l0_1.length c0_1]) (t:=24) ?hr ?_;(case hd=>rfl);(case hg=>rfl);(case hr=>first|(go_simp;done)|(go_simp;rfl));intro gb128 hg w4 hbox hb;have BK128:=aM (hbox);have GW128:=aM (gW hg:w.heap.size≤gb128);have GE128:=aM (gW hg:w.heap.size≤gb128);replace HB:=aM (below_step pB hb);clear hb hbox hg)|((with_reducible refine gate_dst (N:=3) rfl ?_);(try(refine gate_guard (by rfl) ?_;dsimp only));refine box_event ?hg (N:=3) ?hd (cs:=#[.int .i64 a1_0,.slice A1_1 l1_1.length c1_1]) (t:=24) ?hr ?_;(case hd=>rfl);(case hg=>rfl);(case hr=>first|(go_simp;done)|(go_simp;rfl));intro gb129 hg w5 hbox hb;have BK129:=aM (hbox);have GW129:=aM (gW hg:w.heap.size≤gb129);have GE129:=aM (gW hg:w.heap.size≤gb129);have NB128_129:=aM (nL hg BK128:gb128≠gb129);have NB129_128:=aM (nG hg BK128:gb129≠gb128);replace BK128:=aM (kB BK128 hb);replace HB:=aM (below_step pB hb);clear hb hbox hg));go_upto_region 1 with (first|((with_reducible refine gate_dst (N:=2) rfl ?_);(try(refine gate_guard (by rfl) ?_;dsimp only));refine box_event ?hg (N:=2) ?hd (cs:=#[.int .i64 a0_0,.slice A0_1 l0_1.length c0_1]) (t:=24) ?hr ?_;(case hd=>rfl);(case hg=>rfl);(case hr=>first|(go_simp;done)|(go_simp;rfl));intro gb128 hg w4 hbox hb;have BK128:=aM (hbox);have GW128:=aM (gW hg:w.heap.size≤gb128);have GE128:=aM (gW hg:w.heap.size≤gb128);replace HB:=aM (below_step pB hb);clear hb hbox hg)|((with_reducible refine gate_dst (N:=3) rfl ?_);(try(refine gate_guard (by rfl) ?_;dsimp only));refine box_event ?hg (N:=3) ?hd (cs:=#[.int .i64 a1_0,.slice A1_1 l1_1.length c1_1]) (t:=24) ?hr ?_;(case hd=>rfl);(case hg=>rfl);(case hr=>first|(go_simp;done)|(go_simp;rfl));intro gb129 hg w5 hbox hb;have BK129:=aM (hbox);have GW129:=aM (gW hg:w.heap.size≤gb129);have GE129:=aM (gW hg:w.heap.size≤gb129);have NB128_129:=aM (nL hg BK128:gb128≠gb129);have NB129_128:=aM (nG hg BK128:gb129≠gb128);replace BK128:=aM (kB BK128 hb);replace HB:=aM (below_step pB hb);clear hb hbox hg)))
 (try simp only[Act.put,sA,sZ,sC])
 go_cut [19] (fun v19 wc=>∃ (kq:Nat) (x19_2:Bool),v19=.bool x19_2∧Aside0 (Azk.j0 kq x19_2 a0_0 l0_1 a1_0 l1_1=some r)∧Aside0 (kq≤k)∧Aside0 (wc.heap[gb128]?=some (.cells #[.int .i64 a0_0,(.slice A0_1 l0_1.length c0_1)] 24 (0,0)))∧Aside0 (wc.heap[gb129]?=some (.cells #[.int .i64 a1_0,(.slice A1_1 l1_1.length c1_1)] 24 (0,0)))∧Aside0 (Below w.heap.size w wc))
 case first =>
  have H:=HC3.out;clear HC3;by_cases c6:a0_0=a1_0
  ·rw[if_pos c6] at H;have c6b0:(a0_0 == a1_0)=true:=beq_iff_eq.mpr c6;have c6b1:(a0_0 != a1_0)=false:=bne_eq_false_iff_eq.mpr c6;clear c6;(first|rw[c6b0]|(simp only[i64_w,i32_w];rw[c6b0])|skip)
   have H':=aM H;clear H;have hnb7:=NB128_129.out;have hnc7:=NB129_128.out;obtain⟨hcz8_0,hcz8_1,hfz8_0,hfz8_1⟩:=bk2 BK128;obtain⟨hcz9_0,hcz9_1,hfz9_0,hfz9_1⟩:=bk2 BK129;go_wp2
   repeat(go_quiet (fail);try go_wp2)
   go_meet
   case rel=>exact⟨_,(((l0_1.length:Int) != (l1_1.length:Int))),sD,H',⟨by first|omega|exact Nat.le_refl _⟩,⟨by(with_reducible repeat(first|refine blk_drewN ?_ _|refine blk_drew ?_|refine blk_alloc ?_ _));exact BK128.out⟩,⟨by(with_reducible repeat(first|refine blk_drewN ?_ _|refine blk_drew ?_|refine blk_alloc ?_ _));exact BK129.out⟩,⟨pB⟩⟩
  ·rw[if_neg c6] at H;have c6b0:(a0_0 == a1_0)=false:=beq_eq_false_iff_ne.mpr c6;have c6b1:(a0_0 != a1_0)=true:=bne_iff_ne.mpr c6;(first|rw[c6b0]|(simp only[i64_w,i32_w];rw[c6b0])|skip)
   have H':=aM H;clear H;have hnb10:=NB128_129.out;have hnc10:=NB129_128.out;obtain⟨hcz11_0,hcz11_1,hfz11_0,hfz11_1⟩:=bk2 BK128;obtain⟨hcz12_0,hcz12_1,hfz12_0,hfz12_1⟩:=bk2 BK129;go_wp2
   repeat(go_quiet (fail);try go_wp2)
   go_meet
   case rel=>exact⟨_,(true),sD,H',⟨by first|omega|exact Nat.le_refl _⟩,⟨by(with_reducible repeat(first|refine blk_drewN ?_ _|refine blk_drew ?_|refine blk_alloc ?_ _));exact BK128.out⟩,⟨by(with_reducible repeat(first|refine blk_drewN ?_ _|refine blk_drew ?_|refine blk_alloc ?_ _));exact BK129.out⟩,⟨pB⟩⟩
 case rest =>
  clear HC3;try clear c1
  try clear p2
  try clear c6
  try clear c6b0
  try clear c6b1
  try clear c7
  try clear c10
  try clear hcz11_0
  try clear hcz11_1
  try clear hcz12_0
  try clear hcz12_1
  try clear hcz8_0
  try clear hcz8_1
  try clear hcz9_0
  try clear hcz9_1
  try clear hfz11_0
  try clear hfz11_1
  try clear hfz12_0
  try clear hfz12_1
  try clear hfz8_0
  try clear hfz8_1
  try clear hfz9_0
  try clear hfz9_1
  obtain⟨kq,x19_2,rfl,HA,HJ2,BK128,BK129,HB⟩:=hcut;cases kq with
  | zero=>exact absurd HA.out (by simp [Azk.j0])
  | succ kj2 =>
   have H:=HA.out;clear HA;simp only[Azk.j0] at H;by_cases c13:x19_2=true
   ·subst c13;rw[if_pos rfl] at H;obtain rfl:=Option.some.inj H;go_wp2
    repeat(go_quiet (fail);try go_wp2)
    go_ret
    exact⟨eW,pB⟩
   ·replace c13:=Bool.eq_false_iff.mpr c13;subst c13;rw[if_neg (show ¬ (false=true) by decide)] at H
    have H':=aM H;clear H;go_wp2
    repeat(go_quiet (fail);try go_wp2)
    go_loopg [5] kj2 (fun kq v5 w'=>∃ (x5_2:Int),v5=.int .i64 x5_2∧Aside0 (Azk.l0 kq x5_2 a0_0 l0_1 a1_0 l1_1=some r)∧Aside0 (kq≤kj2)∧Aside0 (w'.heap[gb128]?=some (.cells #[.int .i64 a0_0,(.slice A0_1 l0_1.length c0_1)] 24 (0,0)))∧Aside0 (w'.heap[gb129]?=some (.cells #[.int .i64 a1_0,(.slice A1_1 l1_1.length c1_1)] 24 (0,0)))∧Aside0 (Below w.heap.size w w'))
    case atStart=>exact⟨(0),sD,H',⟨Nat.le_refl _⟩,⟨by(with_reducible repeat(first|refine blk_drewN ?_ _|refine blk_drew ?_|refine blk_alloc ?_ _));exact BK128.out⟩,⟨by(with_reducible repeat(first|refine blk_drewN ?_ _|refine blk_drew ?_|refine blk_alloc ?_ _));exact BK129.out⟩,⟨pB⟩⟩
    case round =>
     clear H';try clear c1
     try clear p2
     try clear c6
     try clear c6b0
     try clear c6b1
     try clear c7
     try clear c10
     try clear c13
     try clear hcz11_0
     try clear hcz11_1
     try clear hcz12_0
     try clear hcz12_1
     try clear hcz8_0
     try clear hcz8_1
     try clear hcz9_0
     try clear hcz9_1
     try clear hfz11_0
     try clear hfz11_1
     try clear hfz12_0
     try clear hfz12_1
     try clear hfz8_0
     try clear hfz8_1
     try clear hfz9_0
     try clear hfz9_1
     try clear p2
     obtain⟨x5_2,rfl,HA,HK2,BK128,BK129,HB⟩:=hrel;cases gk with
     | zero=>exact absurd HA.out (by simp [Azk.l0])
     | succ k2 =>
      have H:=HA.out;clear HA;simp only[Azk.l0] at H;by_cases c14:x5_2 < (l0_1.length:Int)
      ·rw[if_pos c14] at H;have c14b0:decide (x5_2 < (l0_1.length:Int))=true:=dE c14;clear c14;by_cases c15:0≤x5_2
       ·rw[if_pos c15] at H;have c15b0:decide (0≤x5_2)=true:=dE c15;clear c15;by_cases c16:x5_2 < (l1_1.length:Int)
        ·rw[if_pos c16] at H;have c16b0:decide (x5_2 < (l1_1.length:Int))=true:=dE c16;clear c16;replace H:=bS H;obtain⟨t132,A170,H⟩:=H;(try dsimp only at H);have A17:=aM A170;clear A170;by_cases c18:t132=true
         ·subst c18;rw[if_pos rfl] at H;have H':=aM H;clear H;have hnb19:=NB128_129.out;have hnc19:=NB129_128.out;obtain⟨hcz20_0,hcz20_1,hfz20_0,hfz20_1⟩:=bk2 BK128;have p130:0≤(x5_2:Int):=oE aS
          have q130:x5_2 < (l0_1.length:Int):=oE aS
          obtain⟨ad130,A130_0,c130_0,e130,hx130_0,hl130_0,hi130_0⟩:=at_L1 HR0_1.out x5_2 p130 q130;cases e130
          replace hx130_0:=(HB.out.cell (World.block_lt_of_cell? w _ hx130_0)).trans hx130_0;have HR130_0:=aM hi130_0;have HC130_0:=aM hl130_0;clear hi130_0 hl130_0;replace p130:=eq_true p130;replace q130:=eq_true q130;obtain⟨hcz21_0,hcz21_1,hfz21_0,hfz21_1⟩:=bk2 BK129;have p131:0≤(x5_2:Int):=oE aS
          have q131:x5_2 < (l1_1.length:Int):=oE aS
          obtain⟨ad131,A131_0,c131_0,e131,hx131_0,hl131_0,hi131_0⟩:=at_L1 HR1_1.out x5_2 p131 q131;cases e131
          replace hx131_0:=(HB.out.cell (World.block_lt_of_cell? w _ hx131_0)).trans hx131_0;have HR131_0:=aM hi131_0;have HC131_0:=aM hl131_0;clear hi131_0 hl131_0;replace p131:=eq_true p131;replace q131:=eq_true q131;have fl_:True:=trivial;repeat((first|clear fl_|go_quiet (first|(go_at_call 20;(with_reducible refine(Azy.calls k2 _ _ (rd_L1 l0_1 x5_2) _ _ (rd_L1 l1_1 x5_2) true _ ?side1 ?side2 ?side3 ?side4 A17.out).mono ?_);(case side1=>exact cX (Kd.C_below HR130_0.out HB.out));(case side2=>exact HC130_0.out);(case side3=>exact cX (Kd.C_below HR131_0.out HB.out));(case side4=>exact HC131_0.out);rintro e w' ⟨rfl,⟨nd,rfl⟩⟩;(try first|exact⟨rfl,_,World.drewN_drewN _ _ _⟩|exact⟨rfl,_,Eq.trans (World.drewN_drewN _ _ _) (congrArg (World.drewN _) (Nat.add_assoc _ _ _))⟩))));go_wp2_with (first|(go_at_call 20;(with_reducible refine(Azy.calls k2 _ _ (rd_L1 l0_1 x5_2) _ _ (rd_L1 l1_1 x5_2) true _ ?side1 ?side2 ?side3 ?side4 A17.out).mono ?_);(case side1=>exact cX (Kd.C_below HR130_0.out HB.out));(case side2=>exact HC130_0.out);(case side3=>exact cX (Kd.C_below HR131_0.out HB.out));(case side4=>exact HC131_0.out);rintro e w' ⟨rfl,⟨nd,rfl⟩⟩;(try first|exact⟨rfl,_,World.drewN_drewN _ _ _⟩|exact⟨rfl,_,Eq.trans (World.drewN_drewN _ _ _) (congrArg (World.drewN _) (Nat.add_assoc _ _ _))⟩))))
          go_roundg k2
          case measure=>have:=HJ2.out;have:=HK2.out;omega
          case rel=>exact⟨(wrap64 (x5_2+1)),sD,H',⟨by have:=HJ2.out;have:=HK2.out;omega⟩,⟨by(with_reducible repeat(first|refine blk_drewN ?_ _|refine blk_drew ?_|refine blk_alloc ?_ _));exact BK128.out⟩,⟨by(with_reducible repeat(first|refine blk_drewN ?_ _|refine blk_drew ?_|refine blk_alloc ?_ _));exact BK129.out⟩,⟨pB⟩⟩
         ·replace c18:=Bool.eq_false_iff.mpr c18;subst c18;rw[if_neg (show ¬ (false=true) by decide)] at H
          obtain rfl:=Option.some.inj H;have hnb22:=NB128_129.out;have hnc22:=NB129_128.out;obtain⟨hcz23_0,hcz23_1,hfz23_0,hfz23_1⟩:=bk2 BK128;have p130:0≤(x5_2:Int):=oE aS
          have q130:x5_2 < (l0_1.length:Int):=oE aS
          obtain⟨ad130,A130_0,c130_0,e130,hx130_0,hl130_0,hi130_0⟩:=at_L1 HR0_1.out x5_2 p130 q130;cases e130
          replace hx130_0:=(HB.out.cell (World.block_lt_of_cell? w _ hx130_0)).trans hx130_0;have HR130_0:=aM hi130_0;have HC130_0:=aM hl130_0;clear hi130_0 hl130_0;replace p130:=eq_true p130;replace q130:=eq_true q130;obtain⟨hcz24_0,hcz24_1,hfz24_0,hfz24_1⟩:=bk2 BK129;have p131:0≤(x5_2:Int):=oE aS
          have q131:x5_2 < (l1_1.length:Int):=oE aS
          obtain⟨ad131,A131_0,c131_0,e131,hx131_0,hl131_0,hi131_0⟩:=at_L1 HR1_1.out x5_2 p131 q131;cases e131
          replace hx131_0:=(HB.out.cell (World.block_lt_of_cell? w _ hx131_0)).trans hx131_0;have HR131_0:=aM hi131_0;have HC131_0:=aM hl131_0;clear hi131_0 hl131_0;replace p131:=eq_true p131;replace q131:=eq_true q131;have fl_:True:=trivial;repeat((first|clear fl_|go_quiet (first|(go_at_call 20;(with_reducible refine(Azy.calls k2 _ _ (rd_L1 l0_1 x5_2) _ _ (rd_L1 l1_1 x5_2) false _ ?side1 ?side2 ?side3 ?side4 A17.out).mono ?_);(case side1=>exact cX (Kd.C_below HR130_0.out HB.out));(case side2=>exact HC130_0.out);(case side3=>exact cX (Kd.C_below HR131_0.out HB.out));(case side4=>exact HC131_0.out);rintro e w' ⟨rfl,⟨nd,rfl⟩⟩;(try first|exact⟨rfl,_,World.drewN_drewN _ _ _⟩|exact⟨rfl,_,Eq.trans (World.drewN_drewN _ _ _) (congrArg (World.drewN _) (Nat.add_assoc _ _ _))⟩))));go_wp2_with (first|(go_at_call 20;(with_reducible refine(Azy.calls k2 _ _ (rd_L1 l0_1 x5_2) _ _ (rd_L1 l1_1 x5_2) false _ ?side1 ?side2 ?side3 ?side4 A17.out).mono ?_);(case side1=>exact cX (Kd.C_below HR130_0.out HB.out));(case side2=>exact HC130_0.out);(case side3=>exact cX (Kd.C_below HR131_0.out HB.out));(case side4=>exact HC131_0.out);rintro e w' ⟨rfl,⟨nd,rfl⟩⟩;(try first|exact⟨rfl,_,World.drewN_drewN _ _ _⟩|exact⟨rfl,_,Eq.trans (World.drewN_drewN _ _ _) (congrArg (World.drewN _) (Nat.add_assoc _ _ _))⟩))))
          go_ret
          exact⟨eW,pB⟩
        ·rw[if_neg c16] at H;exact absurd H (by simp)
       ·rw[if_neg c15] at H;exact absurd H (by simp)
      ·rw[if_neg c14] at H;have c14b0:decide (x5_2 < (l0_1.length:Int))=false:=decide_eq_false c14;clear c14;obtain rfl:=Option.some.inj H;have hnb25:=NB128_129.out;have hnc25:=NB129_128.out;obtain⟨hcz26_0,hcz26_1,hfz26_0,hfz26_1⟩:=bk2 BK128;go_wp2
       repeat(go_quiet (fail);try go_wp2)
       go_ret
       exact⟨eW,pB⟩

end Go.Proofs.Ytpnfdhhfdidlmaa.Print
