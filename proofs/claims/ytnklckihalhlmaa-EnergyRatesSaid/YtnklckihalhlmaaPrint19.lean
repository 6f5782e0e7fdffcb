import Derived.Test.YtnklckihalhlmaaPrint0
namespace Go.Proofs.Ytnklckihalhlmaa.Print
open Go.RowKit Go.Proofs.YtnklckihalhlmaaW.PrintWords Go.Proofs.YtnklckihalhlmaaW.PrintLast Go.Proofs.YtnklckihalhlmaaW.PrintMore
attribute [local go_sem] max2_int min2_int max_two min_two max_three min_three max_four min_four
set_option linter.unusedVariables false
set_option maxRecDepth 100000
set_option maxHeartbeats 8000000
set_option linter.unusedSimpArgs false

def Dzj.l0:Nat→List Int→List Int→Int→Int→Int→Int→Option (Bool × List Int)
 | 0,_,_,_,_,_,_=>none
 | k+1,x0,x1,x2,x7,x11,x12=>if x12 < x11 then(if 0≤x12 then(if x12 < (x0.length:Int) then(if x12 < (x1.length:Int) then(if(wrap64 ((wrap64 ((rd x0 x12) - x7)) - (wrap64 (x2 * (rd x1 x12))))) < 0 then(Dzj.l0 k (x0.set (x12:Int).toNat (wrap64 ((wrap64 ((wrap64 ((rd x0 x12) - x7)) - (wrap64 (x2 * (rd x1 x12)))))+(wrap64 ((wrap64 (Int.tdiv (wrap64 ((wrap64 ((wrap64 (-(wrap64 ((wrap64 ((rd x0 x12) - x7)) - (wrap64 (x2 * (rd x1 x12)))))))+1000000000)) - 1)) 1000000000)) * 1000000000))))) x1 x2 (wrap64 (Int.tdiv (wrap64 ((wrap64 ((wrap64 (-(wrap64 ((wrap64 ((rd x0 x12) - x7)) - (wrap64 (x2 * (rd x1 x12)))))))+1000000000)) - 1)) 1000000000)) x11 (wrap64 (x12+1))) else(Dzj.l0 k (x0.set (x12:Int).toNat (wrap64 ((wrap64 ((rd x0 x12) - x7)) - (wrap64 (x2 * (rd x1 x12)))))) x1 x2 0 x11 (wrap64 (x12+1)))) else(if(wrap64 ((rd x0 x12) - x7)) < 0 then(Dzj.l0 k (x0.set (x12:Int).toNat (wrap64 ((wrap64 ((rd x0 x12) - x7))+(wrap64 ((wrap64 (Int.tdiv (wrap64 ((wrap64 ((wrap64 (-(wrap64 ((rd x0 x12) - x7))))+1000000000)) - 1)) 1000000000)) * 1000000000))))) x1 x2 (wrap64 (Int.tdiv (wrap64 ((wrap64 ((wrap64 (-(wrap64 ((rd x0 x12) - x7))))+1000000000)) - 1)) 1000000000)) x11 (wrap64 (x12+1))) else(Dzj.l0 k (x0.set (x12:Int).toNat (wrap64 ((rd x0 x12) - x7))) x1 x2 0 x11 (wrap64 (x12+1))))) else(none)) else(none)) else(some (decide (x7 > 0),x0))
def Dzj.f (k:Nat) (l0:List Int) (l1:List Int) (a2:Int):Option (Bool × List Int):=Dzj.l0 k l0 l1 a2 0 (l0.length:Int) 0
theorem Dzj.mono_l:∀ k,(∀ y0 y1 y2 y3 y4 y5,LeO (Dzj.l0 k y0 y1 y2 y3 y4 y5) (Dzj.l0 (k+1) y0 y1 y2 y3 y4 y5))
 | 0=>fun _ _ _ _ _ _ r h=>by simp [Dzj.l0] at h
 | k+1=>by
  have ih0:=Dzj.mono_l k
  ·intro y0 y1 y2 y3 y4 y5;unfold Dzj.l0;exact mM
theorem Dzj.mono:∀ a0 a1 a2 k,LeO (Dzj.f k a0 a1 a2) (Dzj.f (k+1) a0 a1 a2):=by
 intro a0 a1 a2 k;have ih0:=Dzj.mono_l k;unfold Dzj.f;exact mM
theorem Dzj.calls (k:Nat) (P0_:Nat→Prop) (u9000_:Value) (l0:List Int) (A1:Option Addr) (c1:Nat) (l1:List Int) (a2:Int) (r1:Bool) (r2:List Int) (w0 w:World) (hB:Below w0.heap.size w0 w) (ho0:Kd.R (Kd.int .i64) 3 w w0.heap.size P0_ u9000_ l0) (hr1:∀ W_,Kept w W_ (fun k_=>P0_ k_)→Kd.C (Kd.int .i64) W_ A1 l1.length l1) (hc1:l1.length≤c1) (h:Dzj.f k l0 l1 a2=some (r1,r2)) :
  Calls Try.prog 104 #[u9000_,.slice A1 l1.length c1,.int .i64 a2] w fun e w'=>e=.returned (.bool r1)∧Kd.R (Kd.int .i64) 3 w' w0.heap.size (fun k_=>(P0_ k_∨w.heap.size≤k_)) u9000_ r2∧Below w0.heap.size w0 w'∧Kept w w' (fun k_=>P0_ k_):=by
 have HO0:=aM (show Kd.R (Kd.int .i64) 3 w w0.heap.size (fun k_=>(P0_ k_∨w.heap.size≤k_)) u9000_ l0 from Kd.R_mono ho0 (fun k_ hk=>(.inl hk)))
 have HR1:=aM hr1;have HC1:=aM hc1;clear hr1 hc1;have HK:=aM (Kept.refl w (fun k_=>P0_ k_))
 have HW0:=aM hB.size;have HB:=aM hB;clear hB;have H:(Dzj.l0 k l0 l1 a2 0 (l0.length:Int) 0)=some (r1,r2):=h;clear h;have H':=aM H;clear H;obtain⟨Ao4,co4,rfl⟩:=Kd.R_slice HO0.out;go_enter Try.func104,Try.ntmps104
 go_wp2
 go_loopg [7,12] k (fun kq v7 v12 w'=>∃ (x0_1:List Int) (x7_1:Int) (x12_1:Int),v7=.int .i64 x7_1∧v12=.int .i64 x12_1∧Aside0 (Dzj.l0 kq x0_1 l1 a2 x7_1 (l0.length:Int) x12_1=some (r1,r2))∧Aside0 (kq≤k)∧Aside0 (Kd.R (Kd.int .i64) 3 w' w0.heap.size (fun k_=>(P0_ k_∨w.heap.size≤k_)) (.slice Ao4 l0.length co4) x0_1)∧Aside0 (Kept w w' (fun k_=>P0_ k_))∧Aside0 (Below w0.heap.size w0 w'))
 case atStart=>exact⟨(l0),(0),(0),sD,sD,H',⟨Nat.le_refl _⟩,⟨rX HO0.out⟩,⟨kK HK⟩,⟨pB⟩⟩
 case round =>
  clear H';try clear c1
  try clear p2
  obtain⟨x0_1,x7_1,x12_1,rfl,rfl,HA,HK1,HO_0,HK,HB⟩:=hrel;have hl0_1:=(Kd.R_reads' HO_0.out).1;rw[hl0_1] at HO_0;(try simp only[hl0_1])
  cases gk with
  | zero=>exact absurd HA.out (by simp [Dzj.l0])
  | succ k1 =>
   have H:=HA.out;clear HA;simp only[Dzj.l0] at H;by_cases c5:x12_1 < (l0.length:Int)
   ·rw[if_pos c5] at H;have c5b0:=dE c5;have c5b0x:=c5b0;(try simp only[hl0_1] at c5b0x)
    clear c5;obtain⟨c6b0,H⟩:=iN H;obtain⟨c7,H⟩:=iO H;have c7b0:decide (x12_1 < (x0_1.length:Int))=true:=dE c7;have c7b0x:=c7b0;(try simp only[hl0_1] at c7b0x)
    clear c7;by_cases c8:x12_1 < (l1.length:Int)
    ·rw[if_pos c8] at H;have c8b0:=dE c8;have c8b0x:=c8b0;(try simp only[hl0_1] at c8b0x)
     clear c8;by_cases c9:(wrap64 ((wrap64 ((rd x0_1 x12_1) - x7_1)) - (wrap64 (a2 * (rd l1 x12_1))))) < 0
     ·rw[if_pos c9] at H;have c9b0:decide ((wrap64 ((wrap64 ((rd x0_1 x12_1) - x7_1)) - (wrap64 (a2 * (rd l1 x12_1))))) < 0)=true:=dE c9;have c9b0w:decide ((IntKind.i64.wrap ((IntKind.i64.wrap ((rd x0_1 x12_1) - x7_1)) - (IntKind.i64.wrap (a2 * (rd l1 x12_1))))) < 0)=true:=by have h_:=c9b0;first|exact h_|(simp only[i64_w];exact h_)
      clear c9;obtain⟨y258,hy258⟩:∃ y_:List Int,y_=(x0_1.set (x12_1:Int).toNat (wrap64 ((wrap64 ((wrap64 ((rd x0_1 x12_1) - x7_1)) - (wrap64 (a2 * (rd l1 x12_1)))))+(wrap64 ((wrap64 (Int.tdiv (wrap64 ((wrap64 ((wrap64 (-(wrap64 ((wrap64 ((rd x0_1 x12_1) - x7_1)) - (wrap64 (a2 * (rd l1 x12_1)))))))+1000000000)) - 1)) 1000000000)) * 1000000000))))):=⟨_,rfl⟩;replace H:(Dzj.l0 k1 y258 l1 a2 (wrap64 (Int.tdiv (wrap64 ((wrap64 ((wrap64 (-(wrap64 ((wrap64 ((rd x0_1 x12_1) - x7_1)) - (wrap64 (a2 * (rd l1 x12_1)))))))+1000000000)) - 1)) 1000000000)) (l0.length:Int) (wrap64 (x12_1+1)))=some (r1,r2):=yE hy258 H
      have Ny258:=aM hy258;clear hy258;have H':=aM H;clear H;obtain⟨ad256,e256,hx256_0,p256,q256⟩:=aI (Kd.R_reads' HO_0.out).2.2 x12_1;cases e256;obtain⟨ad257,e257,hx257_0,p257,q257⟩:=aI (Kd.C_kept_now HR1.out HK.out) x12_1;cases e257;have p10:0≤(x12_1:Int):=oE aS
      have q10:(x12_1:Int) < ((x0_1.length:Int):Int):=oE aS
      obtain⟨go10,co10,eo10,gb10,gl10,cl10,HG10⟩:=Kd.R_form HO_0.out (by omega)
      (first|cases eo10|(injection eo10 with ea_ en_ ec_;(first|subst ea_|(injection ea_ with ea_;subst ea_));subst ec_;clear en_))
      have GB10:=aM gb10;have GG10:=aM HG10;clear gb10 gl10 HG10;have HMgo10:=aM (show(P0_ go10∨w.heap.size≤go10) from(HO_0.out.1 _ rfl))
      (first|simp only[add_plain] at hx256_0|skip)
      obtain⟨hx10_0,hf10_0⟩:=Kd.R_celln 0 HO_0.out (x12_1:Int) p10 q10;replace p10:=eq_true p10;replace q10:=eq_true q10;have HP11:=Kd.R_putg HO_0.out (x12_1:Int) (wrap64 ((wrap64 ((wrap64 ((rd x0_1 x12_1) - x7_1)) - (wrap64 (a2 * (rd l1 x12_1)))))+(wrap64 ((wrap64 (Int.tdiv (wrap64 ((wrap64 ((wrap64 (-(wrap64 ((wrap64 ((rd x0_1 x12_1) - x7_1)) - (wrap64 (a2 * (rd l1 x12_1)))))))+1000000000)) - 1)) 1000000000)) * 1000000000))));go_wp2_with (first|((with_reducible refine gate_store (t:=3) (p:=47) rfl ?_);refine store_event (t:=3) (p:=47) (v:=?vo_w12) (w1:=(wr.setCell ⟨go10,(x12_1:Int).toNat,none⟩ (.int .i64 (wrap64 ((wrap64 ((wrap64 ((rd x0_1 x12_1) - x7_1)) - (wrap64 (a2 * (rd l1 x12_1)))))+(wrap64 ((wrap64 (Int.tdiv (wrap64 ((wrap64 ((wrap64 (-(wrap64 ((wrap64 ((rd x0_1 x12_1) - x7_1)) - (wrap64 (a2 * (rd l1 x12_1)))))))+1000000000)) - 1)) 1000000000)) * 1000000000))))))) ?hg ?ho ?hn ?hr ?_;(case ho=>rfl);(case hg=>rfl);(case hn=>rfl);(case hr=>first|(go_simp;done)|(go_simp;rfl));intro w12 hw;have hg:wr.grownBy w12 (some go10):=(by rw[hw];exact HP11.2);have hp_:Kd.R (Kd.int .i64) 3 w12 w0.heap.size (fun k_=>(P0_ k_∨w.heap.size≤k_)) (.slice (some ⟨go10,0,none⟩) x0_1.length co4) y258:=(by rw[hw,Ny258.out];exact HP11.1);clear HP11;replace HK:=aM (Kept.of_grown (S:=(fun k_=>P0_ k_)) hg (kK HK) (fun k_ e_=>(HO_0.out.1 k_ e_)));replace HO_0:=aM (hp_);replace HB:=aM ((by rw[hw];exact below_set (HB.out) GB10.out:Below w0.heap.size w0 w12));clear hg hw hp_))
      (try simp only[← hl0_1])
      go_roundg k1
      case measure=>have:=HK1.out;omega
      case rel=>exact⟨(y258),(wrap64 (Int.tdiv (wrap64 ((wrap64 ((wrap64 (-(wrap64 ((wrap64 ((rd x0_1 x12_1) - x7_1)) - (wrap64 (a2 * (rd l1 x12_1)))))))+1000000000)) - 1)) 1000000000)),(wrap64 (x12_1+1)),sD,sD,H',⟨by have:=HK1.out;omega⟩,⟨by(try simp only[hl0_1]);(with_reducible repeat(first|apply Kd.R_alloc|apply Kd.R_drewN|apply Kd.R_drew));exact HO_0.out⟩,⟨kK HK⟩,⟨pB⟩⟩
     ·rw[if_neg c9] at H;have c9b0:decide ((wrap64 ((wrap64 ((rd x0_1 x12_1) - x7_1)) - (wrap64 (a2 * (rd l1 x12_1))))) < 0)=false:=decide_eq_false c9;have c9b0w:decide ((IntKind.i64.wrap ((IntKind.i64.wrap ((rd x0_1 x12_1) - x7_1)) - (IntKind.i64.wrap (a2 * (rd l1 x12_1))))) < 0)=false:=by have h_:=c9b0;first|exact h_|(simp only[i64_w];exact h_)
      clear c9;obtain⟨y259,hy259⟩:∃ y_:List Int,y_=(x0_1.set (x12_1:Int).toNat (wrap64 ((wrap64 ((rd x0_1 x12_1) - x7_1)) - (wrap64 (a2 * (rd l1 x12_1)))))):=⟨_,rfl⟩;replace H:(Dzj.l0 k1 y259 l1 a2 0 (l0.length:Int) (wrap64 (x12_1+1)))=some (r1,r2):=yE hy259 H
      have Ny259:=aM hy259;clear hy259;have H':=aM H;clear H;obtain⟨ad256,e256,hx256_0,p256,q256⟩:=aI (Kd.R_reads' HO_0.out).2.2 x12_1;cases e256;obtain⟨ad257,e257,hx257_0,p257,q257⟩:=aI (Kd.C_kept_now HR1.out HK.out) x12_1;cases e257;have p13:0≤(x12_1:Int):=oE aS
      have q13:(x12_1:Int) < ((x0_1.length:Int):Int):=oE aS
      obtain⟨go13,co13,eo13,gb13,gl13,cl13,HG13⟩:=Kd.R_form HO_0.out (by omega)
      (first|cases eo13|(injection eo13 with ea_ en_ ec_;(first|subst ea_|(injection ea_ with ea_;subst ea_));subst ec_;clear en_))
      have GB13:=aM gb13;have GG13:=aM HG13;clear gb13 gl13 HG13;have HMgo13:=aM (show(P0_ go13∨w.heap.size≤go13) from(HO_0.out.1 _ rfl))
      (first|simp only[add_plain] at hx256_0|skip)
      obtain⟨hx13_0,hf13_0⟩:=Kd.R_celln 0 HO_0.out (x12_1:Int) p13 q13;replace p13:=eq_true p13;replace q13:=eq_true q13;have HP14:=Kd.R_putg HO_0.out (x12_1:Int) (wrap64 ((wrap64 ((rd x0_1 x12_1) - x7_1)) - (wrap64 (a2 * (rd l1 x12_1)))));go_wp2_with (first|((with_reducible refine gate_store (t:=3) (p:=47) rfl ?_);refine store_event (t:=3) (p:=47) (v:=?vo_w15) (w1:=(wr.setCell ⟨go13,(x12_1:Int).toNat,none⟩ (.int .i64 (wrap64 ((wrap64 ((rd x0_1 x12_1) - x7_1)) - (wrap64 (a2 * (rd l1 x12_1)))))))) ?hg ?ho ?hn ?hr ?_;(case ho=>rfl);(case hg=>rfl);(case hn=>rfl);(case hr=>first|(go_simp;done)|(go_simp;rfl));intro w15 hw;have hg:wr.grownBy w15 (some go13):=(by rw[hw];exact HP14.2);have hp_:Kd.R (Kd.int .i64) 3 w15 w0.heap.size (fun k_=>(P0_ k_∨w.heap.size≤k_)) (.slice (some ⟨go13,0,none⟩) x0_1.length co4) y259:=(by rw[hw,Ny259.out];exact HP14.1);clear HP14;replace HK:=aM (Kept.of_grown (S:=(fun k_=>P0_ k_)) hg (kK HK) (fun k_ e_=>(HO_0.out.1 k_ e_)));replace HO_0:=aM (hp_);replace HB:=aM ((by rw[hw];exact below_set (HB.out) GB13.out:Below w0.heap.size w0 w15));clear hg hw hp_))
      (try simp only[← hl0_1])
      go_roundg k1
      case measure=>have:=HK1.out;omega
      case rel=>exact⟨(y259),(0),(wrap64 (x12_1+1)),sD,sD,H',⟨by have:=HK1.out;omega⟩,⟨by(try simp only[hl0_1]);(with_reducible repeat(first|apply Kd.R_alloc|apply Kd.R_drewN|apply Kd.R_drew));exact HO_0.out⟩,⟨kK HK⟩,⟨pB⟩⟩
    ·rw[if_neg c8] at H;have c8b0:decide (x12_1 < (l1.length:Int))=false:=decide_eq_false c8;have c8b0x:=c8b0;(try simp only[hl0_1] at c8b0x)
     clear c8;by_cases c16:(wrap64 ((rd x0_1 x12_1) - x7_1)) < 0
     ·rw[if_pos c16] at H;have c16b0:decide ((wrap64 ((rd x0_1 x12_1) - x7_1)) < 0)=true:=dE c16;have c16b0w:decide ((IntKind.i64.wrap ((rd x0_1 x12_1) - x7_1)) < 0)=true:=by have h_:=c16b0;first|exact h_|(simp only[i64_w];exact h_)
      clear c16;obtain⟨y260,hy260⟩:∃ y_:List Int,y_=(x0_1.set (x12_1:Int).toNat (wrap64 ((wrap64 ((rd x0_1 x12_1) - x7_1))+(wrap64 ((wrap64 (Int.tdiv (wrap64 ((wrap64 ((wrap64 (-(wrap64 ((rd x0_1 x12_1) - x7_1))))+1000000000)) - 1)) 1000000000)) * 1000000000))))):=⟨_,rfl⟩;replace H:(Dzj.l0 k1 y260 l1 a2 (wrap64 (Int.tdiv (wrap64 ((wrap64 ((wrap64 (-(wrap64 ((rd x0_1 x12_1) - x7_1))))+1000000000)) - 1)) 1000000000)) (l0.length:Int) (wrap64 (x12_1+1)))=some (r1,r2):=yE hy260 H
      have Ny260:=aM hy260;clear hy260;have H':=aM H;clear H;obtain⟨ad256,e256,hx256_0,p256,q256⟩:=aI (Kd.R_reads' HO_0.out).2.2 x12_1;cases e256;have p17:0≤(x12_1:Int):=oE aS
      have q17:(x12_1:Int) < ((x0_1.length:Int):Int):=oE aS
      obtain⟨go17,co17,eo17,gb17,gl17,cl17,HG17⟩:=Kd.R_form HO_0.out (by omega)
      (first|cases eo17|(injection eo17 with ea_ en_ ec_;(first|subst ea_|(injection ea_ with ea_;subst ea_));subst ec_;clear en_))
      have GB17:=aM gb17;have GG17:=aM HG17;clear gb17 gl17 HG17;have HMgo17:=aM (show(P0_ go17∨w.heap.size≤go17) from(HO_0.out.1 _ rfl))
      (first|simp only[add_plain] at hx256_0|skip)
      obtain⟨hx17_0,hf17_0⟩:=Kd.R_celln 0 HO_0.out (x12_1:Int) p17 q17;replace p17:=eq_true p17;replace q17:=eq_true q17;have HP18:=Kd.R_putg HO_0.out (x12_1:Int) (wrap64 ((wrap64 ((rd x0_1 x12_1) - x7_1))+(wrap64 ((wrap64 (Int.tdiv (wrap64 ((wrap64 ((wrap64 (-(wrap64 ((rd x0_1 x12_1) - x7_1))))+1000000000)) - 1)) 1000000000)) * 1000000000))));go_wp2_with (first|((with_reducible refine gate_store (t:=3) (p:=47) rfl ?_);refine store_event (t:=3) (p:=47) (v:=?vo_w19) (w1:=(wr.setCell ⟨go17,(x12_1:Int).toNat,none⟩ (.int .i64 (wrap64 ((wrap64 ((rd x0_1 x12_1) - x7_1))+(wrap64 ((wrap64 (Int.tdiv (wrap64 ((wrap64 ((wrap64 (-(wrap64 ((rd x0_1 x12_1) - x7_1))))+1000000000)) - 1)) 1000000000)) * 1000000000))))))) ?hg ?ho ?hn ?hr ?_;(case ho=>rfl);(case hg=>rfl);(case hn=>rfl);(case hr=>first|(go_simp;done)|(go_simp;rfl));intro w19 hw;have hg:wr.grownBy w19 (some go17):=(by rw[hw];exact HP18.2);have hp_:Kd.R (Kd.int .i64) 3 w19 w0.heap.size (fun k_=>(P0_ k_∨w.heap.size≤k_)) (.slice (some ⟨go17,0,none⟩) x0_1.length co4) y260:=(by rw[hw,Ny260.out];exact HP18.1);clear HP18;replace HK:=aM (Kept.of_grown (S:=(fun k_=>P0_ k_)) hg (kK HK) (fun k_ e_=>(HO_0.out.1 k_ e_)));replace HO_0:=aM (hp_);replace HB:=aM ((by rw[hw];exact below_set (HB.out) GB17.out:Below w0.heap.size w0 w19));clear hg hw hp_))
      (try simp only[← hl0_1])
      go_roundg k1
      case measure=>have:=HK1.out;omega
      case rel=>exact⟨(y260),(wrap64 (Int.tdiv (wrap64 ((wrap64 ((wrap64 (-(wrap64 ((rd x0_1 x12_1) - x7_1))))+1000000000)) - 1)) 1000000000)),(wrap64 (x12_1+1)),sD,sD,H',⟨by have:=HK1.out;omega⟩,⟨by(try simp only[hl0_1]);(with_reducible repeat(first|apply Kd.R_alloc|apply Kd.R_drewN|apply Kd.R_drew));exact HO_0.out⟩,⟨kK HK⟩,⟨pB⟩⟩
     ·rw[if_neg c16] at H;have c16b0:decide ((wrap64 ((rd x0_1 x12_1) - x7_1)) < 0)=false:=decide_eq_false c16;have c16b0w:decide ((IntKind.i64.wrap ((rd x0_1 x12_1) - x7_1)) < 0)=false:=by have h_:=c16b0;first|exact h_|(simp only[i64_w];exact h_)
      clear c16;obtain⟨y261,hy261⟩:∃ y_:List Int,y_=(x0_1.set (x12_1:Int).toNat (wrap64 ((rd x0_1 x12_1) - x7_1))):=⟨_,rfl⟩;replace H:(Dzj.l0 k1 y261 l1 a2 0 (l0.length:Int) (wrap64 (x12_1+1)))=some (r1,r2):=yE hy261 H
      have Ny261:=aM hy261;clear hy261;have H':=aM H;clear H;obtain⟨ad256,e256,hx256_0,p256,q256⟩:=aI (Kd.R_reads' HO_0.out).2.2 x12_1;cases e256;have p20:0≤(x12_1:Int):=oE aS
      have q20:(x12_1:Int) < ((x0_1.length:Int):Int):=oE aS
      obtain⟨go20,co20,eo20,gb20,gl20,cl20,HG20⟩:=Kd.R_form HO_0.out (by omega)
      (first|cases eo20|(injection eo20 with ea_ en_ ec_;(first|subst ea_|(injection ea_ with ea_;subst ea_));subst ec_;clear en_))
      have GB20:=aM gb20;have GG20:=aM HG20;clear gb20 gl20 HG20;have HMgo20:=aM (show(P0_ go20∨w.heap.size≤go20) from(HO_0.out.1 _ rfl))
      (first|simp only[add_plain] at hx256_0|skip)
      obtain⟨hx20_0,hf20_0⟩:=Kd.R_celln 0 HO_0.out (x12_1:Int) p20 q20;replace p20:=eq_true p20;replace q20:=eq_true q20;have HP21:=Kd.R_putg HO_0.out (x12_1:Int) (wrap64 ((rd x0_1 x12_1) - x7_1));go_wp2_with (first|((with_reducible refine gate_store (t:=3) (p:=47) rfl ?_);refine store_event (t:=3) (p:=47) (v:=?vo_w22) (w1:=(wr.setCell ⟨go20,(x12_1:Int).toNat,none⟩ (.int .i64 (wrap64 ((rd x0_1 x12_1) - x7_1))))) ?hg ?ho ?hn ?hr ?_;(case ho=>rfl);(case hg=>rfl);(case hn=>rfl);(case hr=>first|(go_simp;done)|(go_simp;rfl));intro w22 hw;have hg:wr.grownBy w22 (some go20):=(by rw[hw];exact HP21.2);have hp_:Kd.R (Kd.int .i64) 3 w22 w0.heap.size (fun k_=>(P0_ k_∨w.heap.size≤k_)) (.slice (some ⟨go20,0,none⟩) x0_1.length co4) y261:=(by rw[hw,Ny261.out];exact HP21.1);clear HP21;replace HK:=aM (Kept.of_grown (S:=(fun k_=>P0_ k_)) hg (kK HK) (fun k_ e_=>(HO_0.out.1 k_ e_)));replace HO_0:=aM (hp_);replace HB:=aM ((by rw[hw];exact below_set (HB.out) GB20.out:Below w0.heap.size w0 w22));clear hg hw hp_))
      (try simp only[← hl0_1])
      go_roundg k1
      case measure=>have:=HK1.out;omega
      case rel=>exact⟨(y261),(0),(wrap64 (x12_1+1)),sD,sD,H',⟨by have:=HK1.out;omega⟩,⟨by(try simp only[hl0_1]);(with_reducible repeat(first|apply Kd.R_alloc|apply Kd.R_drewN|apply Kd.R_drew));exact HO_0.out⟩,⟨kK HK⟩,⟨pB⟩⟩
   ·rw[if_neg c5] at H;have c5b0:decide (x12_1 < (l0.length:Int))=false:=decide_eq_false c5;have c5b0x:=c5b0;(try simp only[hl0_1] at c5b0x)
    clear c5;obtain⟨rfl,rfl⟩:=q2 H;go_wp2
    go_ret
    exact⟨eW,(by first|exact(rX HO_0.out)|(simp only[hl0_1];exact(rX HO_0.out))),pB,kK HK⟩


def Dzx.l0:Nat→List Int→List Int→Int→Int→Int→Option (List Int)
 | 0,_,_,_,_,_=>none
 | k+1,x0,x1,x4,x8,x9=>if x9 < x8 then(if 0≤x9 then(if x9 < (x0.length:Int) then(if x9 < (x1.length:Int) then(Dzx.l0 k (x0.set (x9:Int).toNat (Int.tmod (wrap64 ((wrap64 ((rd x0 x9)+x4))+(rd x1 x9))) 1000000000)) x1 (wrap64 (Int.tdiv (wrap64 ((wrap64 ((rd x0 x9)+x4))+(rd x1 x9))) 1000000000)) x8 (wrap64 (x9+1))) else(Dzx.l0 k (x0.set (x9:Int).toNat (Int.tmod (wrap64 ((rd x0 x9)+x4)) 1000000000)) x1 (wrap64 (Int.tdiv (wrap64 ((rd x0 x9)+x4)) 1000000000)) x8 (wrap64 (x9+1)))) else(none)) else(none)) else(some x0)
def Dzx.f (k:Nat) (l0:List Int) (l1:List Int):Option (List Int):=Dzx.l0 k l0 l1 0 (l0.length:Int) 0
theorem Dzx.mono_l:∀ k,(∀ y0 y1 y2 y3 y4,LeO (Dzx.l0 k y0 y1 y2 y3 y4) (Dzx.l0 (k+1) y0 y1 y2 y3 y4))
 | 0=>fun _ _ _ _ _ r h=>by simp [Dzx.l0] at h
 | k+1=>by
  have ih0:=Dzx.mono_l k
  ·intro y0 y1 y2 y3 y4;unfold Dzx.l0;exact mM
theorem Dzx.mono:∀ a0 a1 k,LeO (Dzx.f k a0 a1) (Dzx.f (k+1) a0 a1):=by
 intro a0 a1 k;have ih0:=Dzx.mono_l k;unfold Dzx.f;exact mM
theorem Dzx.calls (k:Nat) (P0_:Nat→Prop) (u9000_:Value) (l0:List Int) (A1:Option Addr) (c1:Nat) (l1:List Int) (r:List Int) (w0 w:World) (hB:Below w0.heap.size w0 w) (ho0:Kd.R (Kd.int .i64) 3 w w0.heap.size P0_ u9000_ l0) (hr1:∀ W_,Kept w W_ (fun k_=>P0_ k_)→Kd.C (Kd.int .i64) W_ A1 l1.length l1) (hc1:l1.length≤c1) (h:Dzx.f k l0 l1=some r) :
  Calls Try.prog 105 #[u9000_,.slice A1 l1.length c1] w fun e w'=>e=.returned (.tuple #[])∧Kd.R (Kd.int .i64) 3 w' w0.heap.size (fun k_=>(P0_ k_∨w.heap.size≤k_)) u9000_ r∧Below w0.heap.size w0 w'∧Kept w w' (fun k_=>P0_ k_):=by
 have HO0:=aM (show Kd.R (Kd.int .i64) 3 w w0.heap.size (fun k_=>(P0_ k_∨w.heap.size≤k_)) u9000_ l0 from Kd.R_mono ho0 (fun k_ hk=>(.inl hk)))
 have HR1:=aM hr1;have HC1:=aM hc1;clear hr1 hc1;have HK:=aM (Kept.refl w (fun k_=>P0_ k_))
 have HW0:=aM hB.size;have HB:=aM hB;clear hB;have H:(Dzx.l0 k l0 l1 0 (l0.length:Int) 0)=some r:=h;clear h;have H':=aM H;clear H;obtain⟨Ao3,co3,rfl⟩:=Kd.R_slice HO0.out;go_enter Try.func105,Try.ntmps105
 go_wp2
 go_loopg [4,9] k (fun kq v4 v9 w'=>∃ (x0_1:List Int) (x4_1:Int) (x9_1:Int),v4=.int .i64 x4_1∧v9=.int .i64 x9_1∧Aside0 (Dzx.l0 kq x0_1 l1 x4_1 (l0.length:Int) x9_1=some r)∧Aside0 (kq≤k)∧Aside0 (Kd.R (Kd.int .i64) 3 w' w0.heap.size (fun k_=>(P0_ k_∨w.heap.size≤k_)) (.slice Ao3 l0.length co3) x0_1)∧Aside0 (Kept w w' (fun k_=>P0_ k_))∧Aside0 (Below w0.heap.size w0 w'))
 case atStart=>exact⟨(l0),(0),(0),sD,sD,H',⟨Nat.le_refl _⟩,⟨rX HO0.out⟩,⟨kK HK⟩,⟨pB⟩⟩
 case round =>
  clear H';try clear c1
  try clear p2
  obtain⟨x0_1,x4_1,x9_1,rfl,rfl,HA,HK1,HO_0,HK,HB⟩:=hrel;have hl0_1:=(Kd.R_reads' HO_0.out).1;rw[hl0_1] at HO_0;(try simp only[hl0_1])
  cases gk with
  | zero=>exact absurd HA.out (by simp [Dzx.l0])
  | succ k1 =>
   have H:=HA.out;clear HA;simp only[Dzx.l0] at H;by_cases c4:x9_1 < (l0.length:Int)
   ·rw[if_pos c4] at H;have c4b0:=dE c4;have c4b0x:=c4b0;(try simp only[hl0_1] at c4b0x)
    clear c4;obtain⟨c5b0,H⟩:=iN H;obtain⟨c6,H⟩:=iO H;have c6b0:decide (x9_1 < (x0_1.length:Int))=true:=dE c6;have c6b0x:=c6b0;(try simp only[hl0_1] at c6b0x)
    clear c6;by_cases c7:x9_1 < (l1.length:Int)
    ·rw[if_pos c7] at H;have c7b0:=dE c7;have c7b0x:=c7b0;(try simp only[hl0_1] at c7b0x)
     clear c7;obtain⟨y264,hy264⟩:∃ y_:List Int,y_=(x0_1.set (x9_1:Int).toNat (Int.tmod (wrap64 ((wrap64 ((rd x0_1 x9_1)+x4_1))+(rd l1 x9_1))) 1000000000)):=⟨_,rfl⟩;replace H:(Dzx.l0 k1 y264 l1 (wrap64 (Int.tdiv (wrap64 ((wrap64 ((rd x0_1 x9_1)+x4_1))+(rd l1 x9_1))) 1000000000)) (l0.length:Int) (wrap64 (x9_1+1)))=some r:=yE hy264 H
     have Ny264:=aM hy264;clear hy264;have H':=aM H;clear H;obtain⟨ad262,e262,hx262_0,p262,q262⟩:=aI (Kd.R_reads' HO_0.out).2.2 x9_1;cases e262;obtain⟨ad263,e263,hx263_0,p263,q263⟩:=aI (Kd.C_kept_now HR1.out HK.out) x9_1;cases e263;have p8:0≤(x9_1:Int):=oE aS
     have q8:(x9_1:Int) < ((x0_1.length:Int):Int):=oE aS
     obtain⟨go8,co8,eo8,gb8,gl8,cl8,HG8⟩:=Kd.R_form HO_0.out (by omega)
     (first|cases eo8|(injection eo8 with ea_ en_ ec_;(first|subst ea_|(injection ea_ with ea_;subst ea_));subst ec_;clear en_))
     have GB8:=aM gb8;have GG8:=aM HG8;clear gb8 gl8 HG8;have HMgo8:=aM (show(P0_ go8∨w.heap.size≤go8) from(HO_0.out.1 _ rfl))
     (first|simp only[add_plain] at hx262_0|skip)
     obtain⟨hx8_0,hf8_0⟩:=Kd.R_celln 0 HO_0.out (x9_1:Int) p8 q8;replace p8:=eq_true p8;replace q8:=eq_true q8;have HP9:=Kd.R_putg HO_0.out (x9_1:Int) (Int.tmod (wrap64 ((wrap64 ((rd x0_1 x9_1)+x4_1))+(rd l1 x9_1))) 1000000000);go_wp2_with (first|((with_reducible refine gate_store (t:=3) (p:=34) rfl ?_);refine store_event (t:=3) (p:=34) (v:=?vo_w10) (w1:=(wr.setCell ⟨go8,(x9_1:Int).toNat,none⟩ (.int .i64 (Int.tmod (wrap64 ((wrap64 ((rd x0_1 x9_1)+x4_1))+(rd l1 x9_1))) 1000000000)))) ?hg ?ho ?hn ?hr ?_;(case ho=>rfl);(case hg=>rfl);(case hn=>rfl);(case hr=>first|(go_simp;done)|(go_simp;rfl));intro w10 hw;have hg:wr.grownBy w10 (some go8):=(by rw[hw];exact HP9.2);have hp_:Kd.R (Kd.int .i64) 3 w10 w0.heap.size (fun k_=>(P0_ k_∨w.heap.size≤k_)) (.slice (some ⟨go8,0,none⟩) x0_1.length co3) y264:=(by rw[hw,Ny264.out];exact HP9.1);clear HP9;replace HK:=aM (Kept.of_grown (S:=(fun k_=>P0_ k_)) hg (kK HK) (fun k_ e_=>(HO_0.out.1 k_ e_)));replace HO_0:=aM (hp_);replace HB:=aM ((by rw[hw];exact below_set (HB.out) GB8.out:Below w0.heap.size w0 w10));clear hg hw hp_))
     (try simp only[← hl0_1])
     go_roundg k1
     case measure=>have:=HK1.out;omega
     case rel=>exact⟨(y264),(wrap64 (Int.tdiv (wrap64 ((wrap64 ((rd x0_1 x9_1)+x4_1))+(rd l1 x9_1))) 1000000000)),(wrap64 (x9_1+1)),sD,sD,H',⟨by have:=HK1.out;omega⟩,⟨by(try simp only[hl0_1]);(with_reducible repeat(first|apply Kd.R_alloc|apply Kd.R_drewN|apply Kd.R_drew));exact HO_0.out⟩,⟨kK HK⟩,⟨pB⟩⟩
    ·rw[if_neg c7] at H;have c7b0:decide (x9_1 < (l1.length:Int))=false:=decide_eq_false c7;have c7b0x:=c7b0;(try simp only[hl0_1] at c7b0x)
     clear c7;obtain⟨y265,hy265⟩:∃ y_:List Int,y_=(x0_1.set (x9_1:Int).toNat (Int.tmod (wrap64 ((rd x0_1 x9_1)+x4_1)) 1000000000)):=⟨_,rfl⟩;replace H:(Dzx.l0 k1 y265 l1 (wrap64 (Int.tdiv (wrap64 ((rd x0_1 x9_1)+x4_1)) 1000000000)) (l0.length:Int) (wrap64 (x9_1+1)))=some r:=yE hy265 H
     have Ny265:=aM hy265;clear hy265;have H':=aM H;clear H;obtain⟨ad262,e262,hx262_0,p262,q262⟩:=aI (Kd.R_reads' HO_0.out).2.2 x9_1;cases e262;have p11:0≤(x9_1:Int):=oE aS
     have q11:(x9_1:Int) < ((x0_1.length:Int):Int):=oE aS
     obtain⟨go11,co11,eo11,gb11,gl11,cl11,HG11⟩:=Kd.R_form HO_0.out (by omega)
     (first|cases eo11|(injection eo11 with ea_ en_ ec_;(first|subst ea_|(injection ea_ with ea_;subst ea_));subst ec_;clear en_))
     have GB11:=aM gb11;have GG11:=aM HG11;clear gb11 gl11 HG11;have HMgo11:=aM (show(P0_ go11∨w.heap.size≤go11) from(HO_0.out.1 _ rfl))
     (first|simp only[add_plain] at hx262_0|skip)
     obtain⟨hx11_0,hf11_0⟩:=Kd.R_celln 0 HO_0.out (x9_1:Int) p11 q11;replace p11:=eq_true p11;replace q11:=eq_true q11;have HP12:=Kd.R_putg HO_0.out (x9_1:Int) (Int.tmod (wrap64 ((rd x0_1 x9_1)+x4_1)) 1000000000);go_wp2_with (first|((with_reducible refine gate_store (t:=3) (p:=34) rfl ?_);refine store_event (t:=3) (p:=34) (v:=?vo_w13) (w1:=(wr.setCell ⟨go11,(x9_1:Int).toNat,none⟩ (.int .i64 (Int.tmod (wrap64 ((rd x0_1 x9_1)+x4_1)) 1000000000)))) ?hg ?ho ?hn ?hr ?_;(case ho=>rfl);(case hg=>rfl);(case hn=>rfl);(case hr=>first|(go_simp;done)|(go_simp;rfl));intro w13 hw;have hg:wr.grownBy w13 (some go11):=(by rw[hw];exact HP12.2);have hp_:Kd.R (Kd.int .i64) 3 w13 w0.heap.size (fun k_=>(P0_ k_∨w.heap.size≤k_)) (.slice (some ⟨go11,0,none⟩) x0_1.length co3) y265:=(by rw[hw,Ny265.out];exact HP12.1);clear HP12;replace HK:=aM (Kept.of_grown (S:=(fun k_=>P0_ k_)) hg (kK HK) (fun k_ e_=>(HO_0.out.1 k_ e_)));replace HO_0:=aM (hp_);replace HB:=aM ((by rw[hw];exact below_set (HB.out) GB11.out:Below w0.heap.size w0 w13));clear hg hw hp_))
     (try simp only[← hl0_1])
     go_roundg k1
     case measure=>have:=HK1.out;omega
     case rel=>exact⟨(y265),(wrap64 (Int.tdiv (wrap64 ((rd x0_1 x9_1)+x4_1)) 1000000000)),(wrap64 (x9_1+1)),sD,sD,H',⟨by have:=HK1.out;omega⟩,⟨by(try simp only[hl0_1]);(with_reducible repeat(first|apply Kd.R_alloc|apply Kd.R_drewN|apply Kd.R_drew));exact HO_0.out⟩,⟨kK HK⟩,⟨pB⟩⟩
   ·rw[if_neg c4] at H;have c4b0:decide (x9_1 < (l0.length:Int))=false:=decide_eq_false c4;have c4b0x:=c4b0;(try simp only[hl0_1] at c4b0x)
    clear c4;obtain rfl:=Option.some.inj H;go_wp2
    first|go_end0|((try simp only[Exit.inBlock,Exit.then]);refine bodyPost_ret (results_none rfl _ _ _) rfl ?_)
    exact⟨eW,(by first|exact(rX HO_0.out)|(simp only[hl0_1];exact(rX HO_0.out))),pB,kK HK⟩

end Go.Proofs.Ytnklckihalhlmaa.Print
