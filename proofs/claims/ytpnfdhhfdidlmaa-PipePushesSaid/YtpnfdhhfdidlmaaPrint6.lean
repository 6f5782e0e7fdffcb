import Derived.Test.YtpnfdhhfdidlmaaPrint0
namespace Go.Proofs.Ytpnfdhhfdidlmaa.Print
open Go.RowKit Go.Proofs.YtpnfdhhfdidlmaaW.PrintWords Go.Proofs.YtpnfdhhfdidlmaaW.PrintLast Go.Proofs.YtpnfdhhfdidlmaaW.PrintMore
attribute [local go_sem] max2_int min2_int max_two min_two max_three min_three max_four min_four
set_option linter.unusedVariables false
set_option maxRecDepth 100000
set_option maxHeartbeats 8000000
set_option linter.unusedSimpArgs false

def Czp.l0:Nat→List Int→Int→List Int→Int→Int→Option (Int × List Int)
 | 0,_,_,_,_,_=>none
 | k+1,x0,xm,x6,x7,x8=>if x8 < x7 then(if 0≤x8 then(if x8 < (x6.length:Int) then(if x8 < (x0.length:Int) then(Czp.l0 k (x0.set (x8:Int).toNat (wrap64 ((rd x0 x8)+(rd x6 x8)))) (wrap64 (xm - (rd x6 x8))) x6 x7 (wrap64 (x8+1))) else(none)) else(none)) else(none)) else(some (xm,x0))
def Czp.f (k:Nat) (l0:List Int) (l1:List Int) (a2:Int):Option (Int × List Int):=Czp.l0 k l1 a2 l0 (l0.length:Int) 0
theorem Czp.mono_l:∀ k,(∀ y0 y1 y2 y3 y4,LeO (Czp.l0 k y0 y1 y2 y3 y4) (Czp.l0 (k+1) y0 y1 y2 y3 y4))
 | 0=>fun _ _ _ _ _ r h=>by simp [Czp.l0] at h
 | k+1=>by
  have ih0:=Czp.mono_l k
  ·intro y0 y1 y2 y3 y4;unfold Czp.l0;with_reducible repeat' first|exact ih0 _ _ _ _ _|exact LeO.refl _|exact LeO.none _|refine LeO.ite ?_ ?_
theorem Czp.mono:∀ a0 a1 a2 k,LeO (Czp.f k a0 a1 a2) (Czp.f (k+1) a0 a1 a2):=fun a0 a1 a2 k=>Czp.mono_l k _ _ _ _ _
/-- A variable that is set back and forth. -/
theorem Czp.reset {w:World} {g t:Nat} {u v:Value} (hb:w.heap[g]?=some (.cells #[v] t (0,0))):w=(w.setCell ⟨g,0,none⟩ u).setCell ⟨g,0,none⟩ v:=by
  obtain⟨heap,tape,drawn,os,output⟩:=w;simp only[World.setCell];congr 1
  have hlt:g < heap.size:=(Array.getElem?_eq_some_iff.1 hb).1;have hg:heap[g]=.cells #[v] t (0,0):=(Array.getElem?_eq_some_iff.1 hb).2;apply Array.ext
  ·simp
  ·intro i h1 h2;rw[Array.getElem_modify,Array.getElem_modify];by_cases e:g=i
   ·subst e;rw[if_pos rfl,if_pos rfl,hg];rfl
   ·rw[if_neg e,if_neg e]
theorem Czp.calls {gbl gbm:Nat} (k:Nat) (A0:Option Addr) (c0:Nat) (l0:List Int) (P1_:Nat→Prop) (u9000_:Value) (l1:List Int) (a2:Int) (r1:Int) (r2:List Int) (w0 w:World) (hB:Below w0.heap.size w0 w) (hr0:∀ W_,Kept w W_ (fun k_=>P1_ k_∨k_=gbm)→Kd.C (Kd.int .i64) W_ A0 l0.length l0) (hc0:l0.length≤c0) (ho1:Kd.R (Kd.int .i64) 3 w w0.heap.size P1_ u9000_ l1) (hbl:w.heap[gbl]?=some (.cells #[u9000_] 29 (0,0))) (hbm:w.heap[gbm]?=some (.cells #[.int .i64 a2] 3 (0,0))) (hgm:w0.heap.size≤gbm) (nl:¬ P1_ gbl) (nm:¬ P1_ gbm) (h:Czp.f k l0 l1 a2=some (r1,r2)) :
  Calls Try.prog 32 #[.slice A0 l0.length c0,.pointer (some ⟨gbl,0,none⟩),.pointer (some ⟨gbm,0,none⟩)] w fun e wz=>∃ w',wz=w'.setCell ⟨gbm,0,none⟩ (.int .i64 r1)∧e=.returned (.tuple #[])∧Kd.R (Kd.int .i64) 3 w' w0.heap.size (fun k_=>(P1_ k_∨w.heap.size≤k_)) u9000_ r2∧Below w0.heap.size w0 w'∧Kept w w' (fun k_=>P1_ k_):=by
 have HO0:=aM (show Kd.R (Kd.int .i64) 3 w w0.heap.size (fun k_=>(P1_ k_∨w.heap.size≤k_)) u9000_ l1 from Kd.R_mono ho1 (fun k_ hk=>(.inl hk)))
 have NLM:=aM (blk_ne hbl hbm (by decide))
 have NOK:=aM (show ∀ k_,(P1_ k_∨w.heap.size≤k_)→k_≠gbm from fun k_ hk e_=>by subst e_;exact hk.elim nm (fun h_=>absurd (blk_lt hbm) (by omega)))
 have NOL:=aM (show ∀ k_,(P1_ k_∨w.heap.size≤k_)→k_≠gbl from fun k_ hk e_=>by subst e_;exact hk.elim nl (fun h_=>absurd (blk_lt hbl) (by omega)))
 have HR0:=aM hr0;have HC0:=aM hc0;have HGM:=aM hgm;have BKL:=aM hbl;have BKM:=aM hbm;have BW:=aM hbm;have HK:=aM (Kept.refl w (fun k_=>P1_ k_∨k_=gbm))
 have HB:=aM hB;clear hB hr0 hc0 hbl hbm hgm nl nm;have H:(Czp.l0 k l1 a2 l0 (l0.length:Int) 0)=some (r1,r2):=h;clear h;have H':=aM H;clear H;go_enter Try.func32,Try.ntmps32
 go_wp2
 go_loopg [8] k (fun kq v8 w'=>∃ (x0_1:List Int) (xm_1:Int) (x8_1:Int),v8=.int .i64 x8_1∧Aside0 (Czp.l0 kq x0_1 xm_1 l0 (l0.length:Int) x8_1=some (r1,r2))∧Aside0 (kq≤k)∧Aside0 (Kd.R (Kd.int .i64) 3 w' w0.heap.size (fun k_=>(P1_ k_∨w.heap.size≤k_)) u9000_ x0_1)∧Aside0 (w'.heap[gbl]?=some (.cells #[u9000_] 29 (0,0)))∧Aside0 (w'.heap[gbm]?=some (.cells #[.int .i64 xm_1] 3 (0,0)))∧Aside0 (Kept w w' (fun k_=>P1_ k_∨k_=gbm))∧Aside0 (Below w0.heap.size w0 w'))
 case atStart=>exact⟨(l1),(a2),(0),sD,H',⟨Nat.le_refl _⟩,⟨rX HO0.out⟩,⟨kW BKL⟩,⟨kW BKM⟩,⟨kK HK⟩,⟨pB⟩⟩
 case round =>
  clear H';try clear c1
  try clear p2
  obtain⟨x0_1,xm_1,x8_1,rfl,HA,HK1,HO_0,BKL,BKM,HK,HB⟩:=hrel;cases gk with
  | zero=>exact absurd HA.out (by simp [Czp.l0])
  | succ k1 =>
   have H:=HA.out;clear HA;simp only[Czp.l0] at H;by_cases c3:x8_1 < (l0.length:Int)
   ·rw[if_pos c3] at H;have c3b0:decide (x8_1 < (l0.length:Int))=true:=dE c3;clear c3;by_cases c4:0≤x8_1
    ·rw[if_pos c4] at H;have c4b0:decide (0≤x8_1)=true:=dE c4;clear c4;by_cases c5:x8_1 < (l0.length:Int)
     ·rw[if_pos c5] at H;have c5b0:decide (x8_1 < (l0.length:Int))=true:=dE c5;clear c5;by_cases c6:x8_1 < (x0_1.length:Int)
      ·rw[if_pos c6] at H;have c6b0:decide (x8_1 < (x0_1.length:Int))=true:=dE c6;clear c6;obtain⟨y127,hy127⟩:∃ y_:List Int,y_=(x0_1.set (x8_1:Int).toNat (wrap64 ((rd x0_1 x8_1)+(rd l0 x8_1)))):=⟨_,rfl⟩;replace H:(Czp.l0 k1 y127 (wrap64 (xm_1 - (rd l0 x8_1))) l0 (l0.length:Int) (wrap64 (x8_1+1)))=some (r1,r2):=by rw[hy127];exact H
       have Ny127:=aM hy127;clear hy127;have H':=aM H;clear H;have p125:0≤(x8_1:Int):=oE aS
       have q125:x8_1 < (l0.length:Int):=oE aS
       have hC:=HR0.out _ HK.out;obtain⟨ad125,e125,hx125_0⟩:=Kd.at_int hC x8_1 p125 q125;clear hC;cases e125
       replace p125:=eq_true p125;replace q125:=eq_true q125;obtain⟨Ao8,co8,eo8⟩:=Kd.R_slice HO_0.out;subst eo8;have p126:0≤(x8_1:Int):=oE aS
       have q126:x8_1 < (x0_1.length:Int):=oE aS
       obtain⟨ad126,e126,hx126_0⟩:=Kd.at_int (Kd.R_reads' HO_0.out).2.2 x8_1 p126 q126;cases e126
       replace p126:=eq_true p126;replace q126:=eq_true q126;have p7:0≤(x8_1:Int):=oE aS
       have q7:(x8_1:Int) < ((x0_1.length:Int):Int):=oE aS
       obtain⟨go7,co7,eo7,gb7,gl7,cl7,HG7⟩:=Kd.R_form HO_0.out (by omega)
       (first|cases eo7|(injection eo7 with ea_ en_ ec_;(first|subst ea_|(injection ea_ with ea_;subst ea_));subst ec_;clear en_))
       have GB7:=aM gb7;clear gb7 gl7 HG7;have HMgo7:=aM (show(P1_ go7∨w.heap.size≤go7) from(HO_0.out.1 _ rfl))
       (first|simp only[add_plain] at hx126_0|skip)
       obtain⟨hx7_0,hf7_0⟩:=Kd.R_celln 0 HO_0.out (x8_1:Int) p7 q7;replace p7:=eq_true p7;replace q7:=eq_true q7;have HP9:=Kd.R_putg HO_0.out (x8_1:Int) (wrap64 ((rd x0_1 x8_1)+(rd l0 x8_1)));obtain⟨hczL,hfzL⟩:=bk1 BKL;go_wp2_with (first|((with_reducible refine gate_store (t:=3) (p:=19) rfl ?_);refine store_event (t:=3) (p:=19) (v:=?vo_w10) (w1:=(wr.setCell ⟨go7,(x8_1:Int).toNat,none⟩ (.int .i64 (wrap64 ((rd x0_1 x8_1)+(rd l0 x8_1)))))) ?hg ?ho ?hn ?hr ?_;(case ho=>rfl);(case hg=>rfl);(case hn=>rfl);(case hr=>first|(go_simp;done)|(go_simp;rfl));intro w10 hw;have hg:wr.grownBy w10 (some go7):=(by rw[hw];exact HP9.2);have hp_:Kd.R (Kd.int .i64) 3 w10 w0.heap.size (fun k_=>(P1_ k_∨w.heap.size≤k_)) (.slice (some ⟨go7,0,none⟩) x0_1.length co8) y127:=(by rw[hw,Ny127.out];exact HP9.1);clear HP9;replace HK:=aM (Kept.of_grown (S:=(fun k_=>P1_ k_∨k_=gbm)) hg (kK HK) (fun k_ e_=>(HO_0.out.1 k_ e_).elim (fun h_=>.inl (.inl h_)) .inr));replace BKL:=aM (show w10.heap[gbl]?=some (.cells #[.slice (some ⟨go7,0,none⟩) x0_1.length co8] 29 (0,0)) by rw[hw];exact blk_far (kW BKL) (NOL.out _ HMgo7.out).symm _);replace BKM:=aM (show w10.heap[gbm]?=some (.cells #[.int .i64 xm_1] 3 (0,0)) by rw[hw];exact blk_far (kW BKM) (NOK.out _ HMgo7.out).symm _);obtain⟨hczM,hfzM⟩:=bk1 BKM;replace HO_0:=aM (hp_);replace HB:=aM ((by rw[hw];exact below_set (HB.out) GB7.out:Below w0.heap.size w0 w10));clear hg hw hp_))
       go_roundg k1
       case measure=>have:=HK1.out;omega
       case rel=>exact⟨(y127),(wrap64 (xm_1 - (rd l0 x8_1))),(wrap64 (x8_1+1)),sD,H',⟨by have:=HK1.out;omega⟩,⟨Kd.R_far (p:=⟨gbm,0,none⟩) (rX HO_0.out) (fun k_ hk=>NOK.out k_ hk) _⟩,⟨blk_far (kW BKL) NLM.out _⟩,⟨blk_put (kW BKM) 0 _ rfl⟩,⟨Kept.setCell (kK HK) (.inl (.inr rfl)) _⟩,⟨below_set pB HGM.out⟩⟩
      ·rw[if_neg c6] at H;exact absurd H (by simp)
     ·rw[if_neg c5] at H;exact absurd H (by simp)
    ·rw[if_neg c4] at H;exact absurd H (by simp)
   ·rw[if_neg c3] at H;have c3b0:decide (x8_1 < (l0.length:Int))=false:=decide_eq_false c3;clear c3;simp only[Option.some.injEq,Prod.mk.injEq] at H;obtain⟨rfl,rfl⟩:=H;go_wp2
    first|go_end0|((try simp only[Exit.inBlock,Exit.then]);refine bodyPost_ret (results_none rfl _ _ _) rfl ?_)
    refine⟨_,Czp.reset (u:=.int .i64 a2) (kW BKM),by first|rfl|(simp [errW_none,errW_some] <;> rfl),Kd.R_far (p:=⟨gbm,0,none⟩) (rX HO_0.out) (fun k_ hk=>NOK.out k_ hk) _,below_set pB HGM.out,?_⟩
    refine⟨by simpa [World.setCell] using HK.out.1,fun i hi hn=>?_⟩
    by_cases e:i=gbm
    ·subst e;rw[BW.out];exact blk_put (kW BKM) 0 _ rfl
    ·rw[Below.heap_setCell _ _ _ _ e];exact HK.out.2 i hi (fun h_=>h_.elim hn e)



def Dzm.f (a0:Int):Option (Bool):=if a0 < 0 then(some true) else(some (decide (a0 > 1125899906842624)))
theorem Dzm.calls (a0:Int) (r:Bool) (w:World) (h:Dzm.f a0=some r) :
  Calls Try.prog 46 #[.int .i64 a0] w fun e w'=>e=.returned (.bool r)∧Drawn0 w w':=by
 have H:(if a0 < 0 then(some true) else(some (decide (a0 > 1125899906842624))))=some r:=h
 clear h;by_cases c2:a0 < 0
 ·rw[if_pos c2] at H;have c2b0:decide (a0 < 0)=true:=dE c2;clear c2;obtain rfl:=Option.some.inj H;go_enter Try.func46,Try.ntmps46
  go_wp2
  go_ret
  exact⟨by first|rfl|(simp;done)|(simp [*];done),by repeat(first|exact Drawn0.refl _|apply Drawn0.step)⟩
 ·rw[if_neg c2] at H;have c2b0:decide (a0 < 0)=false:=decide_eq_false c2;clear c2;obtain rfl:=Option.some.inj H;go_enter Try.func46,Try.ntmps46
  go_wp2
  go_ret
  exact⟨by first|rfl|(simp;done)|(simp [*];done),by repeat(first|exact Drawn0.refl _|apply Drawn0.step)⟩

def Czy.l0:Nat→List Int→Int→Int→Option (Bool)
 | 0,_,_,_=>none
 | k+1,x5,x6,x7=>if x7 < x6 then(if 0≤x7 then(if x7 < (x5.length:Int) then(if(rd x5 x7) < (-1125899906842624) then(some false) else(if(rd x5 x7) > 1125899906842624 then(some false) else(Czy.l0 k x5 x6 (wrap64 (x7+1))))) else(none)) else(none)) else(some true)
def Czy.f (k:Nat) (l0:List Int):Option (Bool):=Czy.l0 k l0 (l0.length:Int) 0
theorem Czy.mono_l:∀ k,(∀ y0 y1 y2,LeO (Czy.l0 k y0 y1 y2) (Czy.l0 (k+1) y0 y1 y2))
 | 0=>fun _ _ _ r h=>by simp [Czy.l0] at h
 | k+1=>by
  have ih0:=Czy.mono_l k
  ·intro y0 y1 y2;unfold Czy.l0;with_reducible repeat' first|exact ih0 _ _ _|exact LeO.refl _|exact LeO.none _|refine LeO.ite ?_ ?_|refine LeO.bind ?_ (fun _=>?_)
theorem Czy.mono:∀ a0 k,LeO (Czy.f k a0) (Czy.f (k+1) a0):=by
 intro a0 k;have ih0:=Czy.mono_l k;unfold Czy.f;with_reducible repeat' first|exact ih0 _ _ _|exact LeO.refl _|exact LeO.none _|refine LeO.ite ?_ ?_|refine LeO.bind ?_ (fun _=>?_)
theorem Czy.calls (k:Nat) (A0:Option Addr) (c0:Nat) (l0:List Int) (r:Bool) (w:World) (hr0:Kd.C (Kd.int .i64) w A0 l0.length l0) (hc0:l0.length≤c0) (h:Czy.f k l0=some r) :
  Calls Try.prog 55 #[.slice A0 l0.length c0] w fun e w'=>e=.returned (.bool r)∧Drawn0 w w':=by
 have HR0:=aM hr0;have HC0:=aM hc0;clear hr0 hc0;have H:(Czy.l0 k l0 (l0.length:Int) 0)=some r:=h;clear h;have H':=aM H;clear H;go_enter Try.func55,Try.ntmps55
 go_wp2
 go_loopg [7] k (fun kq v7 w'=>∃ (x7_1:Int),v7=.int .i64 x7_1∧Aside0 (Czy.l0 kq l0 (l0.length:Int) x7_1=some r)∧Aside0 (kq≤k)∧Drawn0 w w')
 case atStart=>exact⟨(0),sD,H',⟨Nat.le_refl _⟩,by repeat(first|exact Drawn0.refl _|apply Drawn0.step)⟩
 case round =>
  clear H';obtain⟨x7_1,rfl,HA,HK1,⟨m1,rfl⟩⟩:=hrel;cases gk with
  | zero=>exact absurd HA.out (by simp [Czy.l0])
  | succ k1 =>
   have H:=HA.out;clear HA;simp only[Czy.l0] at H;by_cases c2:x7_1 < (l0.length:Int)
   ·rw[if_pos c2] at H;have c2b0:decide (x7_1 < (l0.length:Int))=true:=dE c2;clear c2;by_cases c3:0≤x7_1
    ·rw[if_pos c3] at H;have c3b0:decide (0≤x7_1)=true:=dE c3;clear c3;by_cases c4:x7_1 < (l0.length:Int)
     ·rw[if_pos c4] at H;have c4b0:decide (x7_1 < (l0.length:Int))=true:=dE c4;clear c4;by_cases c5:(rd l0 x7_1) < (-1125899906842624)
      ·rw[if_pos c5] at H;have c5b0:decide ((rd l0 x7_1) < (-1125899906842624))=true:=dE c5;clear c5;obtain rfl:=Option.some.inj H;have p139:0≤(x7_1:Int):=oE aS
       have q139:x7_1 < (l0.length:Int):=oE aS
       obtain⟨ad139,e139,hx139_0⟩:=Kd.at_int HR0.out x7_1 p139 q139;cases e139
       replace p139:=eq_true p139;replace q139:=eq_true q139;go_wp2
       go_ret
       exact⟨by first|rfl|(simp;done)|(simp [*];done),by repeat(first|exact Drawn0.refl _|apply Drawn0.step)⟩
      ·rw[if_neg c5] at H;have c5b0:decide ((rd l0 x7_1) < (-1125899906842624))=false:=decide_eq_false c5;clear c5;by_cases c6:(rd l0 x7_1) > 1125899906842624
       ·rw[if_pos c6] at H;have c6b0:decide (1125899906842624 < (rd l0 x7_1))=true:=dE c6;clear c6;obtain rfl:=Option.some.inj H;have p139:0≤(x7_1:Int):=oE aS
        have q139:x7_1 < (l0.length:Int):=oE aS
        obtain⟨ad139,e139,hx139_0⟩:=Kd.at_int HR0.out x7_1 p139 q139;cases e139
        replace p139:=eq_true p139;replace q139:=eq_true q139;go_wp2
        go_ret
        exact⟨by first|rfl|(simp;done)|(simp [*];done),by repeat(first|exact Drawn0.refl _|apply Drawn0.step)⟩
       ·rw[if_neg c6] at H;have c6b0:decide (1125899906842624 < (rd l0 x7_1))=false:=decide_eq_false c6;clear c6;have H':=aM H;clear H;have p139:0≤(x7_1:Int):=oE aS
        have q139:x7_1 < (l0.length:Int):=oE aS
        obtain⟨ad139,e139,hx139_0⟩:=Kd.at_int HR0.out x7_1 p139 q139;cases e139
        replace p139:=eq_true p139;replace q139:=eq_true q139;go_wp2
        go_roundg k1
        case measure=>have:=HK1.out;omega
        case rel=>exact⟨(wrap64 (x7_1+1)),sD,H',⟨by have:=HK1.out;omega⟩,by repeat(first|exact Drawn0.refl _|apply Drawn0.step)⟩
     ·rw[if_neg c4] at H;exact absurd H (by simp)
    ·rw[if_neg c3] at H;exact absurd H (by simp)
   ·rw[if_neg c2] at H;have c2b0:decide (x7_1 < (l0.length:Int))=false:=decide_eq_false c2;clear c2;obtain rfl:=Option.some.inj H;go_wp2
    go_ret
    exact⟨by first|rfl|(simp;done)|(simp [*];done),by repeat(first|exact Drawn0.refl _|apply Drawn0.step)⟩

def Dzy.f (k:Nat) (a0:Int):Option (Int × Int):=(Czy.f k (([a0]:List Int))).bind fun t143=>(if t143=true then(some (a0,0)) else(some (0,2)))
theorem Dzy.mono:∀ a0 k,LeO (Dzy.f k a0) (Dzy.f (k+1) a0):=by
 intro a0 k;unfold Dzy.f;with_reducible repeat' first|exact Czy.mono _ _|exact LeO.refl _|exact LeO.none _|refine LeO.ite ?_ ?_|refine LeO.bind ?_ (fun _=>?_)
theorem Dzy.calls (k:Nat) (a0:Int) (r1:Int) (r2:Int) (w:World) (h:Dzy.f k a0=some (r1,r2)) :
  Calls Try.prog 56 #[.int .i64 a0] w fun e w'=>e=.returned (.tuple #[.int .i64 r1,.int .i64 r2])∧Below w.heap.size w w':=by
 have HB:=aM (Below.refl w.heap.size w);have H:((Czy.f k (([a0]:List Int))).bind fun t143=>(if t143=true then(some (a0,0)) else(some (0,2))))=some (r1,r2):=h
 clear h;obtain⟨y140,hy140⟩:∃ y_:List Int,y_=(([a0]:List Int)):=⟨_,rfl⟩;replace H:((Czy.f k y140).bind fun t143=>(if t143=true then(some (a0,0)) else(some (0,2))))=some (r1,r2):=by first|(rw[hy140];with_reducible exact H)|(have H2_:=(Option.bind_some _ _).symm.trans H;rw[hy140];with_reducible exact H2_)|(have H2_:=(Option.bind_some _ _).symm.trans H;with_reducible exact H2_)|with_reducible exact H|(rw[hy140];exact H)|exact H
 have Ny140:=aM hy140;clear hy140;replace H:=bS H;obtain⟨t143,A20,H⟩:=H;(try dsimp only at H);have A2:=aM A20;clear A20;by_cases c3:t143=true
 ·subst c3;rw[if_pos rfl] at H;simp only[Option.some.injEq,Prod.mk.injEq] at H;obtain⟨rfl,rfl⟩:=H;go_enter Try.func56,Try.ntmps56
  go_wp2_with (first|((with_reducible refine gate_dst (N:=5) rfl ?_);refine Kd.R_lit (Kd.int .i64) _ 3 ?hg (N:=5) ?hd (xs:=([a0]:List Int)) (inner:=[.int .i64 a0]) (ok:=fun _=>True) (okp:=fun _=>True) ?hr ?hp (fun _ hk=>hk) trivial (Below.refl _ _) (Nat.le_refl _) (by simp) ?_;(case hd=>rfl);(case hg=>rfl);(case hr=>first|(go_simp;done)|(go_simp;rfl));(case hp=>exact(Reps.one (show Kd.M (Kd.int .i64) _ _ _ a0 [.int .i64 a0] from rfl) (Reps.none _ _)));intro v141 w4 ho5 hb hg_ hnew_;clear hg_ hnew_;(first|rw[← Ny140.out] at ho5|(simp only[Int.reduceToNat] at ho5;rw[← Ny140.out] at ho5));have HO142:=aM (Kd.R_lower ho5 (below_size pB));replace HB:=aM (below_step pB hb);clear hb ho5;obtain⟨Ao6,co6,eo6⟩:=Kd.R_slice HO142.out;subst eo6)|((with_reducible refine gate_callee (f:=55) rfl ?_);refine goesL_ (some 6) rfl rfl Try.func55 (by kernel_rfl) rfl #[.slice Ao6 y140.length co6] rfl mA ?_;(with_reducible refine(Czy.calls k _ _ y140 true _ ?side1 ?side2 A2.out).mono ?_);(case side1=>repeat(first|exact(Kd.R_reads' HO142.out).2.2|(with_reducible refine Kd.C_alloc ?_ _)|(with_reducible refine Kd.C_drewN ?_ _)|(with_reducible refine Kd.C_drew ?_)));(case side2=>exact(Kd.R_reads' HO142.out).2.1);rintro e w' ⟨rfl,⟨nd,rfl⟩⟩;refine⟨_,rfl,?_⟩))
  go_ret2
  exact⟨eW,pB⟩
 ·replace c3:=Bool.eq_false_iff.mpr c3;subst c3;rw[if_neg (show ¬ (false=true) by decide)] at H
  simp only[Option.some.injEq,Prod.mk.injEq] at H;obtain⟨rfl,rfl⟩:=H;go_enter Try.func56,Try.ntmps56
  go_wp2_with (first|((with_reducible refine gate_dst (N:=5) rfl ?_);refine Kd.R_lit (Kd.int .i64) _ 3 ?hg (N:=5) ?hd (xs:=([a0]:List Int)) (inner:=[.int .i64 a0]) (ok:=fun _=>True) (okp:=fun _=>True) ?hr ?hp (fun _ hk=>hk) trivial (Below.refl _ _) (Nat.le_refl _) (by simp) ?_;(case hd=>rfl);(case hg=>rfl);(case hr=>first|(go_simp;done)|(go_simp;rfl));(case hp=>exact(Reps.one (show Kd.M (Kd.int .i64) _ _ _ a0 [.int .i64 a0] from rfl) (Reps.none _ _)));intro v141 w7 ho8 hb hg_ hnew_;clear hg_ hnew_;(first|rw[← Ny140.out] at ho8|(simp only[Int.reduceToNat] at ho8;rw[← Ny140.out] at ho8));have HO142:=aM (Kd.R_lower ho8 (below_size pB));replace HB:=aM (below_step pB hb);clear hb ho8;obtain⟨Ao9,co9,eo9⟩:=Kd.R_slice HO142.out;subst eo9)|((with_reducible refine gate_callee (f:=55) rfl ?_);refine goesL_ (some 6) rfl rfl Try.func55 (by kernel_rfl) rfl #[.slice Ao9 y140.length co9] rfl mA ?_;(with_reducible refine(Czy.calls k _ _ y140 false _ ?side1 ?side2 A2.out).mono ?_);(case side1=>repeat(first|exact(Kd.R_reads' HO142.out).2.2|(with_reducible refine Kd.C_alloc ?_ _)|(with_reducible refine Kd.C_drewN ?_ _)|(with_reducible refine Kd.C_drew ?_)));(case side2=>exact(Kd.R_reads' HO142.out).2.1);rintro e w' ⟨rfl,⟨nd,rfl⟩⟩;refine⟨_,rfl,?_⟩))
  go_ret2
  exact⟨eW,pB⟩


def Dzj.l0:Nat→Int→Int→List Int→Int→Int→Option (Int × Int)
 | 0,_,_,_,_,_=>none
 | k+1,x4,x5,x14,x15,x16=>if x16 < x15 then(if 0≤x16 then(if x16 < (x14.length:Int) then(Dzj.l0 k (wrap64 (x4+(wrap64 (Int.tdiv (rd x14 x16) 33554432)))) (wrap64 (x5+(Int.tmod (rd x14 x16) 33554432))) x14 x15 (wrap64 (x16+1))) else(none)) else(none)) else(if(wrap64 (x4+(wrap64 (Int.tdiv x5 33554432)))) > 33554433 then(some (0,2)) else(if(wrap64 (x4+(wrap64 (Int.tdiv x5 33554432)))) < (-33554433) then(some (0,2)) else((Dzy.f k (wrap64 ((wrap64 ((wrap64 (x4+(wrap64 (Int.tdiv x5 33554432)))) * 33554432))+(Int.tmod x5 33554432)))).bind fun bt146=>(some (bt146.1,bt146.2)))))
def Dzj.f (k:Nat) (l0:List Int):Option (Int × Int):=if(l0.length:Int) > 65536 then(some (0,8)) else((Czy.f k l0).bind fun t144=>(if t144=true then(Dzj.l0 k 0 0 l0 (l0.length:Int) 0) else(some (0,1))))
theorem Dzj.mono_l:∀ k,(∀ y0 y1 y2 y3 y4,LeO (Dzj.l0 k y0 y1 y2 y3 y4) (Dzj.l0 (k+1) y0 y1 y2 y3 y4))
 | 0=>fun _ _ _ _ _ r h=>by simp [Dzj.l0] at h
 | k+1=>by
  have ih0:=Dzj.mono_l k
  ·intro y0 y1 y2 y3 y4;unfold Dzj.l0;with_reducible repeat' first|exact ih0 _ _ _ _ _|exact Czy.mono _ _|exact Dzy.mono _ _|exact LeO.refl _|exact LeO.none _|refine LeO.ite ?_ ?_|refine LeO.bind ?_ (fun _=>?_)
theorem Dzj.mono:∀ a0 k,LeO (Dzj.f k a0) (Dzj.f (k+1) a0):=by
 intro a0 k;have ih0:=Dzj.mono_l k;unfold Dzj.f;with_reducible repeat' first|exact ih0 _ _ _ _ _|exact Czy.mono _ _|exact Dzy.mono _ _|exact LeO.refl _|exact LeO.none _|refine LeO.ite ?_ ?_|refine LeO.bind ?_ (fun _=>?_)
theorem Dzj.calls (k:Nat) (A0:Option Addr) (c0:Nat) (l0:List Int) (r1:Int) (r2:Int) (w:World) (hr0:Kd.C (Kd.int .i64) w A0 l0.length l0) (hc0:l0.length≤c0) (h:Dzj.f k l0=some (r1,r2)) :
  Calls Try.prog 47 #[.slice A0 l0.length c0] w fun e w'=>e=.returned (.tuple #[.int .i64 r1,.int .i64 r2])∧Below w.heap.size w w':=by
 have HR0:=aM hr0;have HC0:=aM hc0;clear hr0 hc0;have HB:=aM (Below.refl w.heap.size w);have H:(if(l0.length:Int) > 65536 then(some (0,8)) else((Czy.f k l0).bind fun t144=>(if t144=true then(Dzj.l0 k 0 0 l0 (l0.length:Int) 0) else(some (0,1)))))=some (r1,r2):=h
 clear h;by_cases c2:(l0.length:Int) > 65536
 ·rw[if_pos c2] at H;have c2b0:decide (65536 < (l0.length:Int))=true:=dE c2;have c2b1:decide (65536 < l0.length)=true:=dE (by omega)
  clear c2;simp only[Option.some.injEq,Prod.mk.injEq] at H;obtain⟨rfl,rfl⟩:=H;go_enter Try.func47,Try.ntmps47
  go_wp2
  go_ret2
  exact⟨eW,pB⟩
 ·rw[if_neg c2] at H;have c2b0:decide (65536 < (l0.length:Int))=false:=decide_eq_false c2;have c2b1:decide (65536 < l0.length)=false:=decide_eq_false (by omega)
  clear c2;replace H:=bS H;obtain⟨t144,A30,H⟩:=H;(try dsimp only at H);have A3:=aM A30;clear A30;by_cases c4:t144=true
  ·subst c4;rw[if_pos rfl] at H;have H':=aM H;clear H;go_enter Try.func47,Try.ntmps47
   go_wp2_with (first|((with_reducible refine gate_callee (f:=55) rfl ?_);refine goesL_ (some 12) rfl rfl Try.func55 (by kernel_rfl) rfl #[.slice A0 l0.length c0] rfl mA ?_;(with_reducible refine(Czy.calls k _ _ l0 true _ ?side1 ?side2 A3.out).mono ?_);(case side1=>exact cX HR0.out);(case side2=>exact HC0.out);rintro e w' ⟨rfl,⟨nd,rfl⟩⟩;refine⟨_,rfl,?_⟩))
   try simp only[Act.put,sA,sZ,sC]
   go_loopg [4,5,16] k (fun kq v4 v5 v16 w'=>∃ (x4_1:Int) (x5_1:Int) (x16_1:Int),v4=.int .i64 x4_1∧v5=.int .i64 x5_1∧v16=.int .i64 x16_1∧Aside0 (Dzj.l0 kq x4_1 x5_1 l0 (l0.length:Int) x16_1=some (r1,r2))∧Aside0 (kq≤k)∧Aside0 (Below w.heap.size w w'))
   case atStart=>exact⟨(0),(0),(0),sD,sD,sD,H',⟨Nat.le_refl _⟩,⟨pB⟩⟩
   case round =>
    clear H';try clear c2
    try clear c2b0
    try clear c2b1
    try clear p2
    try clear c4
    obtain⟨x4_1,x5_1,x16_1,rfl,rfl,rfl,HA,HK1,HB⟩:=hrel;cases gk with
    | zero=>exact absurd HA.out (by simp [Dzj.l0])
    | succ k1 =>
     have H:=HA.out;clear HA;simp only[Dzj.l0] at H;by_cases c5:x16_1 < (l0.length:Int)
     ·rw[if_pos c5] at H;have c5b0:decide (x16_1 < (l0.length:Int))=true:=dE c5;clear c5;by_cases c6:0≤x16_1
      ·rw[if_pos c6] at H;have c6b0:decide (0≤x16_1)=true:=dE c6;clear c6;by_cases c7:x16_1 < (l0.length:Int)
       ·rw[if_pos c7] at H;have c7b0:decide (x16_1 < (l0.length:Int))=true:=dE c7;clear c7;have H':=aM H;clear H;have p145:0≤(x16_1:Int):=oE aS
        have q145:x16_1 < (l0.length:Int):=oE aS
        obtain⟨ad145,e145,hx145_0⟩:=Kd.at_int HR0.out x16_1 p145 q145;cases e145
        replace hx145_0:=(HB.out.cell (World.block_lt_of_cell? w _ hx145_0)).trans hx145_0;replace p145:=eq_true p145;replace q145:=eq_true q145;go_wp2
        go_roundg k1
        case measure=>have:=HK1.out;omega
        case rel=>exact⟨(wrap64 (x4_1+(wrap64 (Int.tdiv (rd l0 x16_1) 33554432)))),(wrap64 (x5_1+(Int.tmod (rd l0 x16_1) 33554432))),(wrap64 (x16_1+1)),sD,sD,sD,H',⟨by have:=HK1.out;omega⟩,⟨pB⟩⟩
       ·rw[if_neg c7] at H;exact absurd H (by simp)
      ·rw[if_neg c6] at H;exact absurd H (by simp)
     ·rw[if_neg c5] at H;have c5b0:decide (x16_1 < (l0.length:Int))=false:=decide_eq_false c5;clear c5;by_cases c8:(wrap64 (x4_1+(wrap64 (Int.tdiv x5_1 33554432)))) > 33554433
      ·rw[if_pos c8] at H;have c8b0:decide (33554433 < (wrap64 (x4_1+(wrap64 (Int.tdiv x5_1 33554432)))))=true:=dE c8;have c8b0w:decide (33554433 < (IntKind.i64.wrap (x4_1+(IntKind.i64.wrap (Int.tdiv x5_1 33554432)))))=true:=by have h_:=c8b0;first|exact h_|(simp only[i64_w];exact h_)
       clear c8;simp only[Option.some.injEq,Prod.mk.injEq] at H;obtain⟨rfl,rfl⟩:=H;go_wp2
       go_ret2
       exact⟨eW,pB⟩
      ·rw[if_neg c8] at H;have c8b0:decide (33554433 < (wrap64 (x4_1+(wrap64 (Int.tdiv x5_1 33554432)))))=false:=decide_eq_false c8;have c8b0w:decide (33554433 < (IntKind.i64.wrap (x4_1+(IntKind.i64.wrap (Int.tdiv x5_1 33554432)))))=false:=by have h_:=c8b0;first|exact h_|(simp only[i64_w];exact h_)
       clear c8;by_cases c9:(wrap64 (x4_1+(wrap64 (Int.tdiv x5_1 33554432)))) < (-33554433)
       ·rw[if_pos c9] at H;have c9b0:decide ((wrap64 (x4_1+(wrap64 (Int.tdiv x5_1 33554432)))) < (-33554433))=true:=dE c9;have c9b0w:decide ((IntKind.i64.wrap (x4_1+(IntKind.i64.wrap (Int.tdiv x5_1 33554432)))) < (-33554433))=true:=by have h_:=c9b0;first|exact h_|(simp only[i64_w];exact h_)
        clear c9;simp only[Option.some.injEq,Prod.mk.injEq] at H;obtain⟨rfl,rfl⟩:=H;go_wp2
        go_ret2
        exact⟨eW,pB⟩
       ·rw[if_neg c9] at H;have c9b0:decide ((wrap64 (x4_1+(wrap64 (Int.tdiv x5_1 33554432)))) < (-33554433))=false:=decide_eq_false c9;have c9b0w:decide ((IntKind.i64.wrap (x4_1+(IntKind.i64.wrap (Int.tdiv x5_1 33554432)))) < (-33554433))=false:=by have h_:=c9b0;first|exact h_|(simp only[i64_w];exact h_)
        clear c9;replace H:=bS H;obtain⟨⟨t146,t147⟩,A100,H⟩:=H;replace H:(some (t146,t147))=some (r1,r2):=H;have A10:=aM A100;clear A100;simp only[Option.some.injEq,Prod.mk.injEq] at H;obtain⟨rfl,rfl⟩:=H;go_wp2_with (first|((with_reducible refine gate_callee (f:=56) rfl ?_);refine goesL_ (some 45) rfl rfl Try.func56 (by kernel_rfl) rfl #[.int .i64 (wrap64 ((wrap64 ((wrap64 (x4_1+(wrap64 (Int.tdiv x5_1 33554432)))) * 33554432))+(Int.tmod x5_1 33554432)))] rfl mA ?_;(with_reducible refine(Dzy.calls k1 (wrap64 ((wrap64 ((wrap64 (x4_1+(wrap64 (Int.tdiv x5_1 33554432)))) * 33554432))+(Int.tmod x5_1 33554432))) t146 t147 _ A10.out).mono ?_);rintro e w11 ⟨rfl,hb⟩;refine⟨_,rfl,?_⟩;replace HB:=aM (below_step pB hb);(try clear hb);(try clear hb2);(try clear hk);(try clear hi)))
        go_ret2
        exact⟨eW,pB⟩
  ·replace c4:=Bool.eq_false_iff.mpr c4;subst c4;rw[if_neg (show ¬ (false=true) by decide)] at H
   simp only[Option.some.injEq,Prod.mk.injEq] at H;obtain⟨rfl,rfl⟩:=H;go_enter Try.func47,Try.ntmps47
   go_wp2_with (first|((with_reducible refine gate_callee (f:=55) rfl ?_);refine goesL_ (some 12) rfl rfl Try.func55 (by kernel_rfl) rfl #[.slice A0 l0.length c0] rfl mA ?_;(with_reducible refine(Czy.calls k _ _ l0 false _ ?side1 ?side2 A3.out).mono ?_);(case side1=>exact cX HR0.out);(case side2=>exact HC0.out);rintro e w' ⟨rfl,⟨nd,rfl⟩⟩;refine⟨_,rfl,?_⟩))
   go_ret2
   exact⟨eW,pB⟩

def Bzz.l0:Nat→List Int→Int→Int→Option (Int)
 | 0,_,_,_=>none
 | k+1,x0,x7,x8=>if x8 < x7 then(if 0≤x8 then(if x8 < (x0.length:Int) then((Dzm.f (rd x0 x8)).bind fun t149=>(if t149=true then(some x8) else(Bzz.l0 k x0 x7 (wrap64 (x8+1))))) else(none)) else(none)) else(some (-1))
def Bzz.f (k:Nat) (l0:List Int)  : Option (Int):=Bzz.l0 k l0 (l0.length:Int) 0
theorem Bzz.mono_l:∀ k,(∀ y0 y1 y2,LeO (Bzz.l0 k y0 y1 y2) (Bzz.l0 (k+1) y0 y1 y2))
 | 0=>fun _ _ _ r h=>by simp [Bzz.l0] at h
 | k+1=>by
  have ih0:=Bzz.mono_l k
  ·intro y0 y1 y2;unfold Bzz.l0;with_reducible repeat' first|exact ih0 _ _ _|exact LeO.refl _|exact LeO.none _|refine LeO.ite ?_ ?_|refine LeO.bind ?_ (fun _=>?_)
theorem Bzz.mono:∀ a0 k,LeO (Bzz.f k a0) (Bzz.f (k+1) a0):=by
 intro a0 k;have ih0:=Bzz.mono_l k;unfold Bzz.f;with_reducible repeat' first|exact ih0 _ _ _|exact LeO.refl _|exact LeO.none _|refine LeO.ite ?_ ?_|refine LeO.bind ?_ (fun _=>?_)
theorem Bzz.calls (k:Nat) (A0:Option Addr) (c0:Nat) (l0:List Int)  (r:Int) (w:World) (hr0:Kd.C (Kd.int .i64) w A0 l0.length l0) (hc0:l0.length≤c0) (h:Bzz.f k l0=some r) :
  Calls Try.prog 54 #[.slice A0 l0.length c0,.func (.func 46) #[] #[]] w fun e w'=>e=.returned (.int .i64 r)∧Drawn0 w w':=by
 have HR0:=aM hr0;have HC0:=aM hc0;clear hr0 hc0;have H:(Bzz.l0 k l0 (l0.length:Int) 0)=some r:=h;clear h;have H':=aM H;clear H;go_enter Try.func54,Try.ntmps54
 go_wp2
 go_loopg [8] k (fun kq v8 w'=>∃ (x8_1:Int),v8=.int .i64 x8_1∧Aside0 (Bzz.l0 kq l0 (l0.length:Int) x8_1=some r)∧Aside0 (kq≤k)∧Drawn0 w w')
 case atStart=>exact⟨(0),sD,H',⟨Nat.le_refl _⟩,by repeat(first|exact Drawn0.refl _|apply Drawn0.step)⟩
 case round =>
  clear H';try clear p2
  obtain⟨x8_1,rfl,HA,HK1,⟨m1,rfl⟩⟩:=hrel;cases gk with
  | zero=>exact absurd HA.out (by simp [Bzz.l0])
  | succ k1 =>
   have H:=HA.out;clear HA;simp only[Bzz.l0] at H;by_cases c3:x8_1 < (l0.length:Int)
   ·rw[if_pos c3] at H;have c3b0:decide (x8_1 < (l0.length:Int))=true:=dE c3;clear c3;by_cases c4:0≤x8_1
    ·rw[if_pos c4] at H;have c4b0:decide (0≤x8_1)=true:=dE c4;clear c4;by_cases c5:x8_1 < (l0.length:Int)
     ·rw[if_pos c5] at H;have c5b0:decide (x8_1 < (l0.length:Int))=true:=dE c5;clear c5;replace H:=bS H;obtain⟨t149,A60,H⟩:=H;(try dsimp only at H);have A6:=aM A60;clear A60;by_cases c7:t149=true
      ·subst c7;rw[if_pos rfl] at H;obtain rfl:=Option.some.inj H;have p148:0≤(x8_1:Int):=oE aS
       have q148:x8_1 < (l0.length:Int):=oE aS
       obtain⟨ad148,e148,hx148_0⟩:=Kd.at_int HR0.out x8_1 p148 q148;cases e148
       replace p148:=eq_true p148;replace q148:=eq_true q148;go_wp2_with (first|(go_at_call 46;(with_reducible refine(Dzm.calls (rd l0 x8_1) true _ A6.out).mono ?_);rintro e w' ⟨rfl,⟨nd,rfl⟩⟩))
       go_ret
       exact⟨by first|rfl|(simp;done)|(simp [*];done),by repeat(first|exact Drawn0.refl _|apply Drawn0.step)⟩
      ·replace c7:=Bool.eq_false_iff.mpr c7;subst c7;rw[if_neg (show ¬ (false=true) by decide)] at H
       have H':=aM H;clear H;have p148:0≤(x8_1:Int):=oE aS
       have q148:x8_1 < (l0.length:Int):=oE aS
       obtain⟨ad148,e148,hx148_0⟩:=Kd.at_int HR0.out x8_1 p148 q148;cases e148
       replace p148:=eq_true p148;replace q148:=eq_true q148;go_wp2_with (first|(go_at_call 46;(with_reducible refine(Dzm.calls (rd l0 x8_1) false _ A6.out).mono ?_);rintro e w' ⟨rfl,⟨nd,rfl⟩⟩))
       go_roundg k1
       case measure=>have:=HK1.out;omega
       case rel=>exact⟨(wrap64 (x8_1+1)),sD,H',⟨by have:=HK1.out;omega⟩,by repeat(first|exact Drawn0.refl _|apply Drawn0.step)⟩
     ·rw[if_neg c5] at H;exact absurd H (by simp)
    ·rw[if_neg c4] at H;exact absurd H (by simp)
   ·rw[if_neg c3] at H;have c3b0:decide (x8_1 < (l0.length:Int))=false:=decide_eq_false c3;clear c3;obtain rfl:=Option.some.inj H;go_wp2
    go_ret
    exact⟨by first|rfl|(simp;done)|(simp [*];done),by repeat(first|exact Drawn0.refl _|apply Drawn0.step)⟩

def Bzm.f (k:Nat) (l0:List Int)  : Option (Bool):=(Bzz.f k l0).bind fun t150=>(some (decide (t150≥0)))
theorem Bzm.mono:∀ a0 k,LeO (Bzm.f k a0) (Bzm.f (k+1) a0):=by
 intro a0 k;unfold Bzm.f;with_reducible repeat' first|exact Bzz.mono _ _|exact LeO.refl _|exact LeO.none _|refine LeO.ite ?_ ?_|refine LeO.bind ?_ (fun _=>?_)
theorem Bzm.calls (k:Nat) (A0:Option Addr) (c0:Nat) (l0:List Int)  (r:Bool) (w:World) (hr0:Kd.C (Kd.int .i64) w A0 l0.length l0) (hc0:l0.length≤c0) (h:Bzm.f k l0=some r) :
  Calls Try.prog 45 #[.slice A0 l0.length c0,.func (.func 46) #[] #[]] w fun e w'=>e=.returned (.bool r)∧Drawn0 w w':=by
 have HR0:=aM hr0;have HC0:=aM hc0;clear hr0 hc0;have H:((Bzz.f k l0).bind fun t150=>(some (decide (t150≥0))))=some r:=h
 clear h;replace H:=bS H;obtain⟨t150,A30,H⟩:=H;replace H:(some (decide (t150≥0)))=some r:=H;have A3:=aM A30;clear A30;obtain rfl:=Option.some.inj H;go_enter Try.func45,Try.ntmps45
 go_wp2_with (first|((with_reducible refine gate_callee (f:=54) rfl ?_);refine goesL_ (some 7) rfl rfl Try.func54 (by kernel_rfl) rfl #[.slice A0 l0.length c0,.func (.func 46) #[] #[]] rfl mA ?_;(with_reducible refine(Bzz.calls k _ _ l0  t150 _ ?side1 ?side2 A3.out).mono ?_);(case side1=>exact cX HR0.out);(case side2=>exact HC0.out);rintro e w' ⟨rfl,⟨nd,rfl⟩⟩;refine⟨_,rfl,?_⟩))
 go_ret
 exact⟨by first|rfl|(simp;done)|(simp [*];done),by repeat(first|exact Drawn0.refl _|apply Drawn0.step)⟩

end Go.Proofs.Ytpnfdhhfdidlmaa.Print
