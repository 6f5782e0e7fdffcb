import Derived.Test.YtnklckihalhlmaaPrint0
namespace Go.Proofs.Ytnklckihalhlmaa.Print
open Go.RowKit Go.Proofs.YtnklckihalhlmaaW.PrintWords Go.Proofs.YtnklckihalhlmaaW.PrintLast Go.Proofs.YtnklckihalhlmaaW.PrintMore
attribute [local go_sem] max2_int min2_int max_two min_two max_three min_three max_four min_four
set_option linter.unusedVariables false
set_option maxRecDepth 100000
set_option maxHeartbeats 8000000
set_option linter.unusedSimpArgs false

def Dzw.l0:Nat→List Int→List Int→Int→Int→Int→Int→Option (Bool × List Int)
 | 0,_,_,_,_,_,_=>none
 | k+1,x0,x1,x2,x7,x11,x12=>if x12 < x11 then(if 0≤x12 then(if x12 < (x0.length:Int) then(if x12 < (x1.length:Int) then(if(wrap64 ((wrap64 ((rd x0 x12) - x7)) - (wrap64 (x2 * (rd x1 x12))))) < 0 then(Dzw.l0 k (x0.set (x12:Int).toNat (wrap64 ((wrap64 ((wrap64 ((rd x0 x12) - x7)) - (wrap64 (x2 * (rd x1 x12)))))+(wrap64 ((wrap64 (Int.tdiv (wrap64 ((wrap64 ((wrap64 (-(wrap64 ((wrap64 ((rd x0 x12) - x7)) - (wrap64 (x2 * (rd x1 x12)))))))+1000000000)) - 1)) 1000000000)) * 1000000000))))) x1 x2 (wrap64 (Int.tdiv (wrap64 ((wrap64 ((wrap64 (-(wrap64 ((wrap64 ((rd x0 x12) - x7)) - (wrap64 (x2 * (rd x1 x12)))))))+1000000000)) - 1)) 1000000000)) x11 (wrap64 (x12+1))) else(Dzw.l0 k (x0.set (x12:Int).toNat (wrap64 ((wrap64 ((rd x0 x12) - x7)) - (wrap64 (x2 * (rd x1 x12)))))) x1 x2 0 x11 (wrap64 (x12+1)))) else(if(wrap64 ((rd x0 x12) - x7)) < 0 then(Dzw.l0 k (x0.set (x12:Int).toNat (wrap64 ((wrap64 ((rd x0 x12) - x7))+(wrap64 ((wrap64 (Int.tdiv (wrap64 ((wrap64 ((wrap64 (-(wrap64 ((rd x0 x12) - x7))))+1000000000)) - 1)) 1000000000)) * 1000000000))))) x1 x2 (wrap64 (Int.tdiv (wrap64 ((wrap64 ((wrap64 (-(wrap64 ((rd x0 x12) - x7))))+1000000000)) - 1)) 1000000000)) x11 (wrap64 (x12+1))) else(Dzw.l0 k (x0.set (x12:Int).toNat (wrap64 ((rd x0 x12) - x7))) x1 x2 0 x11 (wrap64 (x12+1))))) else(none)) else(none)) else(some (decide (x7 > 0),x0))
def Dzw.f (k:Nat) (l0:List Int) (l1:List Int) (a2:Int):Option (Bool × List Int):=Dzw.l0 k l0 l1 a2 0 (l0.length:Int) 0
theorem Dzw.mono_l:∀ k,(∀ a6 a7 a8 a9 b3 b4,LeO (Dzw.l0 k a6 a7 a8 a9 b3 b4) (Dzw.l0 (k+1) a6 a7 a8 a9 b3 b4))
 | 0=>fun _ _ _ _ _ _ r h=>by simp [Dzw.l0] at h
 | k+1=>by
  have ih0:=Dzw.mono_l k
  ·intro a6 a7 a8 a9 b3 b4;unfold Dzw.l0;exact mM
theorem Dzw.mono:∀ a6 a7 a8 k,LeO (Dzw.f k a6 a7 a8) (Dzw.f (k+1) a6 a7 a8):=by
 intro a6 a7 a8 k;have ih0:=Dzw.mono_l k;unfold Dzw.f;exact mM
theorem Dzw.calls (k:Nat) (a6:Nat→Prop) (u9000_:Value) (l0:List Int) (a7:Option Addr) (a8:Nat) (l1:List Int) (a9:Int) (b3:Bool) (b4:List Int) (b5 w:World) (hB:Below b5.heap.size b5 w) (b6:Kd.R (Kd.int .i64) 3 w b5.heap.size a6 u9000_ l0) (b7:∀ W_,Kept w W_ (fun k_=>a6 k_)→Kd.C (Kd.int .i64) W_ a7 l1.length l1) (b8:l1.length≤a8) (h:Dzw.f k l0 l1 a9=some (b3,b4)) :
  Calls Try.prog 104 #[u9000_,.slice a7 l1.length a8,.int .i64 a9] w fun e w'=>e=.returned (.bool b3)∧Kd.R (Kd.int .i64) 3 w' b5.heap.size (fun k_=>(a6 k_∨w.heap.size≤k_)) u9000_ b4∧Below b5.heap.size b5 w'∧Kept w w' (fun k_=>a6 k_):=by
 have b9:=aM (show Kd.R (Kd.int .i64) 3 w b5.heap.size (fun k_=>(a6 k_∨w.heap.size≤k_)) u9000_ l0 from Kd.R_mono b6 (fun k_ hk=>(.inl hk)))
 have d0:=aM b7;have d1:=aM b8;clear b7 b8;have HK:=aM (Kept.refl w (fun k_=>a6 k_))
 have HW0:=aM hB.size;have HB:=aM hB;clear hB;have H:(Dzw.l0 k l0 l1 a9 0 (l0.length:Int) 0)=some (b3,b4):=h;clear h;have H':=aM H;clear H;obtain⟨d3,d4,rfl⟩:=Kd.R_slice b9.out;go_enter Try.func104,Try.ntmps104
 go_wp2
 go_loopg [7,12] k (fun kq d5 d6 w'=>∃ (d7:List Int) (d8:Int) (d9:Int),d5=.int .i64 d8∧d6=.int .i64 d9∧Aside0 (Dzw.l0 kq d7 l1 a9 d8 (l0.length:Int) d9=some (b3,b4))∧Aside0 (kq≤k)∧Aside0 (Kd.R (Kd.int .i64) 3 w' b5.heap.size (fun k_=>(a6 k_∨w.heap.size≤k_)) (.slice d3 l0.length d4) d7)∧Aside0 (Kept w w' (fun k_=>a6 k_))∧Aside0 (Below b5.heap.size b5 w'))
 case atStart=>exact⟨(l0),(0),(0),sD,sD,H',⟨Nat.le_refl _⟩,⟨rX b9.out⟩,⟨kK HK⟩,⟨pB⟩⟩
 case round =>
  clear H';try clear a8
  obtain⟨d7,d8,d9,rfl,rfl,HA,e6,e7,HK,HB⟩:=hrel;have e8:=(Kd.R_reads' e7.out).1;rw[e8] at e7;(try simp only[e8])
  cases gk with
  | zero=>exact absurd HA.out (by simp [Dzw.l0])
  | succ k1 =>
   have H:=HA.out;clear HA;simp only[Dzw.l0] at H;by_cases c5:d9 < (l0.length:Int)
   ·rw[if_pos c5] at H;have f3:=dE c5;have f4:=f3;(try simp only[e8] at f4)
    clear c5;obtain⟨f5,H⟩:=iN H;obtain⟨c7,H⟩:=iO H;have f6:decide (d9 < (d7.length:Int))=true:=dE c7;have f7:=f6;(try simp only[e8] at f7)
    clear c7;by_cases c8:d9 < (l1.length:Int)
    ·rw[if_pos c8] at H;have f8:=dE c8;have f9:=f8;(try simp only[e8] at f9)
     clear c8;by_cases c9:(wrap64 ((wrap64 ((rd d7 d9) - d8)) - (wrap64 (a9 * (rd l1 d9))))) < 0
     ·rw[if_pos c9] at H;have g6:decide ((wrap64 ((wrap64 ((rd d7 d9) - d8)) - (wrap64 (a9 * (rd l1 d9))))) < 0)=true:=dE c9;have g7:decide ((IntKind.i64.wrap ((IntKind.i64.wrap ((rd d7 d9) - d8)) - (IntKind.i64.wrap (a9 * (rd l1 d9))))) < 0)=true:=by have h_:=g6;first|exact h_|(simp only[i64_w];exact h_)
      clear c9;obtain⟨g8,g9⟩:∃ y_:List Int,y_=(d7.set (d9:Int).toNat (wrap64 ((wrap64 ((wrap64 ((rd d7 d9) - d8)) - (wrap64 (a9 * (rd l1 d9)))))+(wrap64 ((wrap64 (Int.tdiv (wrap64 ((wrap64 ((wrap64 (-(wrap64 ((wrap64 ((rd d7 d9) - d8)) - (wrap64 (a9 * (rd l1 d9)))))))+1000000000)) - 1)) 1000000000)) * 1000000000))))):=⟨_,rfl⟩;replace H:(Dzw.l0 k1 g8 l1 a9 (wrap64 (Int.tdiv (wrap64 ((wrap64 ((wrap64 (-(wrap64 ((wrap64 ((rd d7 d9) - d8)) - (wrap64 (a9 * (rd l1 d9)))))))+1000000000)) - 1)) 1000000000)) (l0.length:Int) (wrap64 (d9+1)))=some (b3,b4):=yE g9 H
      have j5:=aM g9;clear g9;have H':=aM H;clear H;obtain⟨j9,l5,l6,l7,l8⟩:=aI (Kd.R_reads' e7.out).2.2 d9;cases l5;obtain⟨l9,m4,m5,m6,m7⟩:=aI (Kd.C_kept_now d0.out HK.out) d9;cases m4;have m8:0≤(d9:Int):=oE aS
      have m9:(d9:Int) < ((d7.length:Int):Int):=oE aS
      obtain⟨n0,n1,n2,n3,n4,n5,n6⟩:=Kd.R_form e7.out (by omega)
      (first|cases n2|(injection n2 with ea_ en_ ec_;(first|subst ea_|(injection ea_ with ea_;subst ea_));subst ec_;clear en_))
      have n7:=aM n3;have n8:=aM n6;clear n3 n4 n6;have HMgo10:=aM (show(a6 n0∨w.heap.size≤n0) from(e7.out.1 _ rfl))
      (first|simp only[add_plain] at l6|skip)
      obtain⟨n9,o0⟩:=Kd.R_celln 0 e7.out (d9:Int) m8 m9;replace m8:=eq_true m8;replace m9:=eq_true m9;have o1:=Kd.R_putg e7.out (d9:Int) (wrap64 ((wrap64 ((wrap64 ((rd d7 d9) - d8)) - (wrap64 (a9 * (rd l1 d9)))))+(wrap64 ((wrap64 (Int.tdiv (wrap64 ((wrap64 ((wrap64 (-(wrap64 ((wrap64 ((rd d7 d9) - d8)) - (wrap64 (a9 * (rd l1 d9)))))))+1000000000)) - 1)) 1000000000)) * 1000000000))));go_wp2_with (first|((with_reducible refine gate_store (t:=3) (p:=47) rfl ?_);refine store_event (t:=3) (p:=47) (v:=?vo_w12) (w1:=(wr.setCell ⟨n0,(d9:Int).toNat,none⟩ (.int .i64 (wrap64 ((wrap64 ((wrap64 ((rd d7 d9) - d8)) - (wrap64 (a9 * (rd l1 d9)))))+(wrap64 ((wrap64 (Int.tdiv (wrap64 ((wrap64 ((wrap64 (-(wrap64 ((wrap64 ((rd d7 d9) - d8)) - (wrap64 (a9 * (rd l1 d9)))))))+1000000000)) - 1)) 1000000000)) * 1000000000))))))) ?hg ?ho ?hn ?hr ?_;(case ho=>rfl);(case hg=>rfl);(case hn=>rfl);(case hr=>first|(go_simp;done)|(go_simp;rfl));intro o2 hw;have hg:wr.grownBy o2 (some n0):=(by rw[hw];exact o1.2);have hp_:Kd.R (Kd.int .i64) 3 o2 b5.heap.size (fun k_=>(a6 k_∨w.heap.size≤k_)) (.slice (some ⟨n0,0,none⟩) d7.length d4) g8:=(by rw[hw,j5.out];exact o1.1);clear o1;replace HK:=aM (Kept.of_grown (S:=(fun k_=>a6 k_)) hg (kK HK) (fun k_ e_=>(e7.out.1 k_ e_)));replace e7:=aM (hp_);replace HB:=aM ((by rw[hw];exact below_set (HB.out) n7.out:Below b5.heap.size b5 o2));clear hg hw hp_))
      (try simp only[← e8])
      go_roundg k1
      case measure=>have:=e6.out;omega
      case rel=>exact⟨(g8),(wrap64 (Int.tdiv (wrap64 ((wrap64 ((wrap64 (-(wrap64 ((wrap64 ((rd d7 d9) - d8)) - (wrap64 (a9 * (rd l1 d9)))))))+1000000000)) - 1)) 1000000000)),(wrap64 (d9+1)),sD,sD,H',⟨by have:=e6.out;omega⟩,⟨by(try simp only[e8]);(with_reducible repeat(first|apply Kd.R_alloc|apply Kd.R_drewN|apply Kd.R_drew));exact e7.out⟩,⟨kK HK⟩,⟨pB⟩⟩
     ·rw[if_neg c9] at H;have g6:decide ((wrap64 ((wrap64 ((rd d7 d9) - d8)) - (wrap64 (a9 * (rd l1 d9))))) < 0)=false:=decide_eq_false c9;have g7:decide ((IntKind.i64.wrap ((IntKind.i64.wrap ((rd d7 d9) - d8)) - (IntKind.i64.wrap (a9 * (rd l1 d9))))) < 0)=false:=by have h_:=g6;first|exact h_|(simp only[i64_w];exact h_)
      clear c9;obtain⟨o3,o4⟩:∃ y_:List Int,y_=(d7.set (d9:Int).toNat (wrap64 ((wrap64 ((rd d7 d9) - d8)) - (wrap64 (a9 * (rd l1 d9)))))):=⟨_,rfl⟩;replace H:(Dzw.l0 k1 o3 l1 a9 0 (l0.length:Int) (wrap64 (d9+1)))=some (b3,b4):=yE o4 H
      have o5:=aM o4;clear o4;have H':=aM H;clear H;obtain⟨j9,l5,l6,l7,l8⟩:=aI (Kd.R_reads' e7.out).2.2 d9;cases l5;obtain⟨l9,m4,m5,m6,m7⟩:=aI (Kd.C_kept_now d0.out HK.out) d9;cases m4;have o6:0≤(d9:Int):=oE aS
      have o7:(d9:Int) < ((d7.length:Int):Int):=oE aS
      obtain⟨o8,o9,p3,p7,p9,r5,r6⟩:=Kd.R_form e7.out (by omega)
      (first|cases p3|(injection p3 with ea_ en_ ec_;(first|subst ea_|(injection ea_ with ea_;subst ea_));subst ec_;clear en_))
      have r7:=aM p7;have r8:=aM r6;clear p7 p9 r6;have HMgo13:=aM (show(a6 o8∨w.heap.size≤o8) from(e7.out.1 _ rfl))
      (first|simp only[add_plain] at l6|skip)
      obtain⟨r9,t0⟩:=Kd.R_celln 0 e7.out (d9:Int) o6 o7;replace o6:=eq_true o6;replace o7:=eq_true o7;have t1:=Kd.R_putg e7.out (d9:Int) (wrap64 ((wrap64 ((rd d7 d9) - d8)) - (wrap64 (a9 * (rd l1 d9)))));go_wp2_with (first|((with_reducible refine gate_store (t:=3) (p:=47) rfl ?_);refine store_event (t:=3) (p:=47) (v:=?vo_w15) (w1:=(wr.setCell ⟨o8,(d9:Int).toNat,none⟩ (.int .i64 (wrap64 ((wrap64 ((rd d7 d9) - d8)) - (wrap64 (a9 * (rd l1 d9)))))))) ?hg ?ho ?hn ?hr ?_;(case ho=>rfl);(case hg=>rfl);(case hn=>rfl);(case hr=>first|(go_simp;done)|(go_simp;rfl));intro t2 hw;have hg:wr.grownBy t2 (some o8):=(by rw[hw];exact t1.2);have hp_:Kd.R (Kd.int .i64) 3 t2 b5.heap.size (fun k_=>(a6 k_∨w.heap.size≤k_)) (.slice (some ⟨o8,0,none⟩) d7.length d4) o3:=(by rw[hw,o5.out];exact t1.1);clear t1;replace HK:=aM (Kept.of_grown (S:=(fun k_=>a6 k_)) hg (kK HK) (fun k_ e_=>(e7.out.1 k_ e_)));replace e7:=aM (hp_);replace HB:=aM ((by rw[hw];exact below_set (HB.out) r7.out:Below b5.heap.size b5 t2));clear hg hw hp_))
      (try simp only[← e8])
      go_roundg k1
      case measure=>have:=e6.out;omega
      case rel=>exact⟨(o3),(0),(wrap64 (d9+1)),sD,sD,H',⟨by have:=e6.out;omega⟩,⟨by(try simp only[e8]);(with_reducible repeat(first|apply Kd.R_alloc|apply Kd.R_drewN|apply Kd.R_drew));exact e7.out⟩,⟨kK HK⟩,⟨pB⟩⟩
    ·rw[if_neg c8] at H;have f8:decide (d9 < (l1.length:Int))=false:=decide_eq_false c8;have f9:=f8;(try simp only[e8] at f9)
     clear c8;by_cases t3:(wrap64 ((rd d7 d9) - d8)) < 0
     ·rw[if_pos t3] at H;have t4:decide ((wrap64 ((rd d7 d9) - d8)) < 0)=true:=dE t3;have t5:decide ((IntKind.i64.wrap ((rd d7 d9) - d8)) < 0)=true:=by have h_:=t4;first|exact h_|(simp only[i64_w];exact h_)
      clear t3;obtain⟨t6,t7⟩:∃ y_:List Int,y_=(d7.set (d9:Int).toNat (wrap64 ((wrap64 ((rd d7 d9) - d8))+(wrap64 ((wrap64 (Int.tdiv (wrap64 ((wrap64 ((wrap64 (-(wrap64 ((rd d7 d9) - d8))))+1000000000)) - 1)) 1000000000)) * 1000000000))))):=⟨_,rfl⟩;replace H:(Dzw.l0 k1 t6 l1 a9 (wrap64 (Int.tdiv (wrap64 ((wrap64 ((wrap64 (-(wrap64 ((rd d7 d9) - d8))))+1000000000)) - 1)) 1000000000)) (l0.length:Int) (wrap64 (d9+1)))=some (b3,b4):=yE t7 H
      have t8:=aM t7;clear t7;have H':=aM H;clear H;obtain⟨j9,l5,l6,l7,l8⟩:=aI (Kd.R_reads' e7.out).2.2 d9;cases l5;have t9:0≤(d9:Int):=oE aS
      have z3:(d9:Int) < ((d7.length:Int):Int):=oE aS
      obtain⟨z4,z5,z6,z7,z8,z9,B0⟩:=Kd.R_form e7.out (by omega)
      (first|cases z6|(injection z6 with ea_ en_ ec_;(first|subst ea_|(injection ea_ with ea_;subst ea_));subst ec_;clear en_))
      have B1:=aM z7;have B8:=aM B0;clear z7 z8 B0;have HMgo17:=aM (show(a6 z4∨w.heap.size≤z4) from(e7.out.1 _ rfl))
      (first|simp only[add_plain] at l6|skip)
      obtain⟨C0,C1⟩:=Kd.R_celln 0 e7.out (d9:Int) t9 z3;replace t9:=eq_true t9;replace z3:=eq_true z3;have C2:=Kd.R_putg e7.out (d9:Int) (wrap64 ((wrap64 ((rd d7 d9) - d8))+(wrap64 ((wrap64 (Int.tdiv (wrap64 ((wrap64 ((wrap64 (-(wrap64 ((rd d7 d9) - d8))))+1000000000)) - 1)) 1000000000)) * 1000000000))));go_wp2_with (first|((with_reducible refine gate_store (t:=3) (p:=47) rfl ?_);refine store_event (t:=3) (p:=47) (v:=?vo_w19) (w1:=(wr.setCell ⟨z4,(d9:Int).toNat,none⟩ (.int .i64 (wrap64 ((wrap64 ((rd d7 d9) - d8))+(wrap64 ((wrap64 (Int.tdiv (wrap64 ((wrap64 ((wrap64 (-(wrap64 ((rd d7 d9) - d8))))+1000000000)) - 1)) 1000000000)) * 1000000000))))))) ?hg ?ho ?hn ?hr ?_;(case ho=>rfl);(case hg=>rfl);(case hn=>rfl);(case hr=>first|(go_simp;done)|(go_simp;rfl));intro C3 hw;have hg:wr.grownBy C3 (some z4):=(by rw[hw];exact C2.2);have hp_:Kd.R (Kd.int .i64) 3 C3 b5.heap.size (fun k_=>(a6 k_∨w.heap.size≤k_)) (.slice (some ⟨z4,0,none⟩) d7.length d4) t6:=(by rw[hw,t8.out];exact C2.1);clear C2;replace HK:=aM (Kept.of_grown (S:=(fun k_=>a6 k_)) hg (kK HK) (fun k_ e_=>(e7.out.1 k_ e_)));replace e7:=aM (hp_);replace HB:=aM ((by rw[hw];exact below_set (HB.out) B1.out:Below b5.heap.size b5 C3));clear hg hw hp_))
      (try simp only[← e8])
      go_roundg k1
      case measure=>have:=e6.out;omega
      case rel=>exact⟨(t6),(wrap64 (Int.tdiv (wrap64 ((wrap64 ((wrap64 (-(wrap64 ((rd d7 d9) - d8))))+1000000000)) - 1)) 1000000000)),(wrap64 (d9+1)),sD,sD,H',⟨by have:=e6.out;omega⟩,⟨by(try simp only[e8]);(with_reducible repeat(first|apply Kd.R_alloc|apply Kd.R_drewN|apply Kd.R_drew));exact e7.out⟩,⟨kK HK⟩,⟨pB⟩⟩
     ·rw[if_neg t3] at H;have t4:decide ((wrap64 ((rd d7 d9) - d8)) < 0)=false:=decide_eq_false t3;have t5:decide ((IntKind.i64.wrap ((rd d7 d9) - d8)) < 0)=false:=by have h_:=t4;first|exact h_|(simp only[i64_w];exact h_)
      clear t3;obtain⟨C4,C6⟩:∃ y_:List Int,y_=(d7.set (d9:Int).toNat (wrap64 ((rd d7 d9) - d8))):=⟨_,rfl⟩;replace H:(Dzw.l0 k1 C4 l1 a9 0 (l0.length:Int) (wrap64 (d9+1)))=some (b3,b4):=yE C6 H
      have C7:=aM C6;clear C6;have H':=aM H;clear H;obtain⟨j9,l5,l6,l7,l8⟩:=aI (Kd.R_reads' e7.out).2.2 d9;cases l5;have C8:0≤(d9:Int):=oE aS
      have C9:(d9:Int) < ((d7.length:Int):Int):=oE aS
      obtain⟨D0,D1,D2,D3,D4,D5,D6⟩:=Kd.R_form e7.out (by omega)
      (first|cases D2|(injection D2 with ea_ en_ ec_;(first|subst ea_|(injection ea_ with ea_;subst ea_));subst ec_;clear en_))
      have D7:=aM D3;have D8:=aM D6;clear D3 D4 D6;have HMgo20:=aM (show(a6 D0∨w.heap.size≤D0) from(e7.out.1 _ rfl))
      (first|simp only[add_plain] at l6|skip)
      obtain⟨D9,E3⟩:=Kd.R_celln 0 e7.out (d9:Int) C8 C9;replace C8:=eq_true C8;replace C9:=eq_true C9;have E4:=Kd.R_putg e7.out (d9:Int) (wrap64 ((rd d7 d9) - d8));go_wp2_with (first|((with_reducible refine gate_store (t:=3) (p:=47) rfl ?_);refine store_event (t:=3) (p:=47) (v:=?vo_w22) (w1:=(wr.setCell ⟨D0,(d9:Int).toNat,none⟩ (.int .i64 (wrap64 ((rd d7 d9) - d8))))) ?hg ?ho ?hn ?hr ?_;(case ho=>rfl);(case hg=>rfl);(case hn=>rfl);(case hr=>first|(go_simp;done)|(go_simp;rfl));intro E5 hw;have hg:wr.grownBy E5 (some D0):=(by rw[hw];exact E4.2);have hp_:Kd.R (Kd.int .i64) 3 E5 b5.heap.size (fun k_=>(a6 k_∨w.heap.size≤k_)) (.slice (some ⟨D0,0,none⟩) d7.length d4) C4:=(by rw[hw,C7.out];exact E4.1);clear E4;replace HK:=aM (Kept.of_grown (S:=(fun k_=>a6 k_)) hg (kK HK) (fun k_ e_=>(e7.out.1 k_ e_)));replace e7:=aM (hp_);replace HB:=aM ((by rw[hw];exact below_set (HB.out) D7.out:Below b5.heap.size b5 E5));clear hg hw hp_))
      (try simp only[← e8])
      go_roundg k1
      case measure=>have:=e6.out;omega
      case rel=>exact⟨(C4),(0),(wrap64 (d9+1)),sD,sD,H',⟨by have:=e6.out;omega⟩,⟨by(try simp only[e8]);(with_reducible repeat(first|apply Kd.R_alloc|apply Kd.R_drewN|apply Kd.R_drew));exact e7.out⟩,⟨kK HK⟩,⟨pB⟩⟩
   ·rw[if_neg c5] at H;have f3:decide (d9 < (l0.length:Int))=false:=decide_eq_false c5;have f4:=f3;(try simp only[e8] at f4)
    clear c5;obtain⟨rfl,rfl⟩:=q2 H;go_wp2
    go_ret
    exact⟨eW,(by first|exact(rX e7.out)|(simp only[e8];exact(rX e7.out))),pB,kK HK⟩


def Dzx.l0:Nat→List Int→List Int→Int→Int→Int→Option (List Int)
 | 0,_,_,_,_,_=>none
 | k+1,x0,x1,x4,x8,x9=>if x9 < x8 then(if 0≤x9 then(if x9 < (x0.length:Int) then(if x9 < (x1.length:Int) then(Dzx.l0 k (x0.set (x9:Int).toNat (Int.tmod (wrap64 ((wrap64 ((rd x0 x9)+x4))+(rd x1 x9))) 1000000000)) x1 (wrap64 (Int.tdiv (wrap64 ((wrap64 ((rd x0 x9)+x4))+(rd x1 x9))) 1000000000)) x8 (wrap64 (x9+1))) else(Dzx.l0 k (x0.set (x9:Int).toNat (Int.tmod (wrap64 ((rd x0 x9)+x4)) 1000000000)) x1 (wrap64 (Int.tdiv (wrap64 ((rd x0 x9)+x4)) 1000000000)) x8 (wrap64 (x9+1)))) else(none)) else(none)) else(some x0)
def Dzx.f (k:Nat) (l0:List Int) (l1:List Int):Option (List Int):=Dzx.l0 k l0 l1 0 (l0.length:Int) 0
theorem Dzx.mono_l:∀ k,(∀ a6 a7 a8 a9 b3,LeO (Dzx.l0 k a6 a7 a8 a9 b3) (Dzx.l0 (k+1) a6 a7 a8 a9 b3))
 | 0=>fun _ _ _ _ _ r h=>by simp [Dzx.l0] at h
 | k+1=>by
  have ih0:=Dzx.mono_l k
  ·intro a6 a7 a8 a9 b3;unfold Dzx.l0;exact mM
theorem Dzx.mono:∀ a6 a7 k,LeO (Dzx.f k a6 a7) (Dzx.f (k+1) a6 a7):=by
 intro a6 a7 k;have ih0:=Dzx.mono_l k;unfold Dzx.f;exact mM
theorem Dzx.calls (k:Nat) (a6:Nat→Prop) (u9000_:Value) (l0:List Int) (a7:Option Addr) (a8:Nat) (l1:List Int) (r:List Int) (a9 w:World) (hB:Below a9.heap.size a9 w) (b3:Kd.R (Kd.int .i64) 3 w a9.heap.size a6 u9000_ l0) (b4:∀ W_,Kept w W_ (fun k_=>a6 k_)→Kd.C (Kd.int .i64) W_ a7 l1.length l1) (b5:l1.length≤a8) (h:Dzx.f k l0 l1=some r) :
  Calls Try.prog 105 #[u9000_,.slice a7 l1.length a8] w fun e w'=>e=.returned (.tuple #[])∧Kd.R (Kd.int .i64) 3 w' a9.heap.size (fun k_=>(a6 k_∨w.heap.size≤k_)) u9000_ r∧Below a9.heap.size a9 w'∧Kept w w' (fun k_=>a6 k_):=by
 have b6:=aM (show Kd.R (Kd.int .i64) 3 w a9.heap.size (fun k_=>(a6 k_∨w.heap.size≤k_)) u9000_ l0 from Kd.R_mono b3 (fun k_ hk=>(.inl hk)))
 have b7:=aM b4;have b8:=aM b5;clear b4 b5;have HK:=aM (Kept.refl w (fun k_=>a6 k_))
 have HW0:=aM hB.size;have HB:=aM hB;clear hB;have H:(Dzx.l0 k l0 l1 0 (l0.length:Int) 0)=some r:=h;clear h;have H':=aM H;clear H;obtain⟨b9,d0,rfl⟩:=Kd.R_slice b6.out;go_enter Try.func105,Try.ntmps105
 go_wp2
 go_loopg [4,9] k (fun kq d1 d3 w'=>∃ (d4:List Int) (d5:Int) (d6:Int),d1=.int .i64 d5∧d3=.int .i64 d6∧Aside0 (Dzx.l0 kq d4 l1 d5 (l0.length:Int) d6=some r)∧Aside0 (kq≤k)∧Aside0 (Kd.R (Kd.int .i64) 3 w' a9.heap.size (fun k_=>(a6 k_∨w.heap.size≤k_)) (.slice b9 l0.length d0) d4)∧Aside0 (Kept w w' (fun k_=>a6 k_))∧Aside0 (Below a9.heap.size a9 w'))
 case atStart=>exact⟨(l0),(0),(0),sD,sD,H',⟨Nat.le_refl _⟩,⟨rX b6.out⟩,⟨kK HK⟩,⟨pB⟩⟩
 case round =>
  clear H';try clear a8
  obtain⟨d4,d5,d6,rfl,rfl,HA,d7,d8,HK,HB⟩:=hrel;have d9:=(Kd.R_reads' d8.out).1;rw[d9] at d8;(try simp only[d9])
  cases gk with
  | zero=>exact absurd HA.out (by simp [Dzx.l0])
  | succ k1 =>
   have H:=HA.out;clear HA;simp only[Dzx.l0] at H;by_cases c4:d6 < (l0.length:Int)
   ·rw[if_pos c4] at H;have e6:=dE c4;have e7:=e6;(try simp only[d9] at e7)
    clear c4;obtain⟨e8,H⟩:=iN H;obtain⟨c6,H⟩:=iO H;have f3:decide (d6 < (d4.length:Int))=true:=dE c6;have f4:=f3;(try simp only[d9] at f4)
    clear c6;by_cases c7:d6 < (l1.length:Int)
    ·rw[if_pos c7] at H;have f5:=dE c7;have f6:=f5;(try simp only[d9] at f6)
     clear c7;obtain⟨f7,f8⟩:∃ y_:List Int,y_=(d4.set (d6:Int).toNat (Int.tmod (wrap64 ((wrap64 ((rd d4 d6)+d5))+(rd l1 d6))) 1000000000)):=⟨_,rfl⟩;replace H:(Dzx.l0 k1 f7 l1 (wrap64 (Int.tdiv (wrap64 ((wrap64 ((rd d4 d6)+d5))+(rd l1 d6))) 1000000000)) (l0.length:Int) (wrap64 (d6+1)))=some r:=yE f8 H
     have f9:=aM f8;clear f8;have H':=aM H;clear H;obtain⟨g6,g7,g8,g9,j5⟩:=aI (Kd.R_reads' d8.out).2.2 d6;cases g7;obtain⟨j9,l5,l6,l7,l8⟩:=aI (Kd.C_kept_now b7.out HK.out) d6;cases l5;have l9:0≤(d6:Int):=oE aS
     have q8:(d6:Int) < ((d4.length:Int):Int):=oE aS
     obtain⟨m4,m5,m6,m7,m8,m9,n0⟩:=Kd.R_form d8.out (by omega)
     (first|cases m6|(injection m6 with ea_ en_ ec_;(first|subst ea_|(injection ea_ with ea_;subst ea_));subst ec_;clear en_))
     have n1:=aM m7;have n2:=aM n0;clear m7 m8 n0;have HMgo8:=aM (show(a6 m4∨w.heap.size≤m4) from(d8.out.1 _ rfl))
     (first|simp only[add_plain] at g8|skip)
     obtain⟨n3,n4⟩:=Kd.R_celln 0 d8.out (d6:Int) l9 q8;replace l9:=eq_true l9;replace q8:=eq_true q8;have n5:=Kd.R_putg d8.out (d6:Int) (Int.tmod (wrap64 ((wrap64 ((rd d4 d6)+d5))+(rd l1 d6))) 1000000000);go_wp2_with (first|((with_reducible refine gate_store (t:=3) (p:=34) rfl ?_);refine store_event (t:=3) (p:=34) (v:=?vo_w10) (w1:=(wr.setCell ⟨m4,(d6:Int).toNat,none⟩ (.int .i64 (Int.tmod (wrap64 ((wrap64 ((rd d4 d6)+d5))+(rd l1 d6))) 1000000000)))) ?hg ?ho ?hn ?hr ?_;(case ho=>rfl);(case hg=>rfl);(case hn=>rfl);(case hr=>first|(go_simp;done)|(go_simp;rfl));intro n6 hw;have hg:wr.grownBy n6 (some m4):=(by rw[hw];exact n5.2);have hp_:Kd.R (Kd.int .i64) 3 n6 a9.heap.size (fun k_=>(a6 k_∨w.heap.size≤k_)) (.slice (some ⟨m4,0,none⟩) d4.length d0) f7:=(by rw[hw,f9.out];exact n5.1);clear n5;replace HK:=aM (Kept.of_grown (S:=(fun k_=>a6 k_)) hg (kK HK) (fun k_ e_=>(d8.out.1 k_ e_)));replace d8:=aM (hp_);replace HB:=aM ((by rw[hw];exact below_set (HB.out) n1.out:Below a9.heap.size a9 n6));clear hg hw hp_))
     (try simp only[← d9])
     go_roundg k1
     case measure=>have:=d7.out;omega
     case rel=>exact⟨(f7),(wrap64 (Int.tdiv (wrap64 ((wrap64 ((rd d4 d6)+d5))+(rd l1 d6))) 1000000000)),(wrap64 (d6+1)),sD,sD,H',⟨by have:=d7.out;omega⟩,⟨by(try simp only[d9]);(with_reducible repeat(first|apply Kd.R_alloc|apply Kd.R_drewN|apply Kd.R_drew));exact d8.out⟩,⟨kK HK⟩,⟨pB⟩⟩
    ·rw[if_neg c7] at H;have f5:decide (d6 < (l1.length:Int))=false:=decide_eq_false c7;have f6:=f5;(try simp only[d9] at f6)
     clear c7;obtain⟨n7,n8⟩:∃ y_:List Int,y_=(d4.set (d6:Int).toNat (Int.tmod (wrap64 ((rd d4 d6)+d5)) 1000000000)):=⟨_,rfl⟩;replace H:(Dzx.l0 k1 n7 l1 (wrap64 (Int.tdiv (wrap64 ((rd d4 d6)+d5)) 1000000000)) (l0.length:Int) (wrap64 (d6+1)))=some r:=yE n8 H
     have n9:=aM n8;clear n8;have H':=aM H;clear H;obtain⟨g6,g7,g8,g9,j5⟩:=aI (Kd.R_reads' d8.out).2.2 d6;cases g7;have o0:0≤(d6:Int):=oE aS
     have o1:(d6:Int) < ((d4.length:Int):Int):=oE aS
     obtain⟨o2,o3,o4,o5,o6,o7,o8⟩:=Kd.R_form d8.out (by omega)
     (first|cases o4|(injection o4 with ea_ en_ ec_;(first|subst ea_|(injection ea_ with ea_;subst ea_));subst ec_;clear en_))
     have o9:=aM o5;have p3:=aM o8;clear o5 o6 o8;have HMgo11:=aM (show(a6 o2∨w.heap.size≤o2) from(d8.out.1 _ rfl))
     (first|simp only[add_plain] at g8|skip)
     obtain⟨p7,p9⟩:=Kd.R_celln 0 d8.out (d6:Int) o0 o1;replace o0:=eq_true o0;replace o1:=eq_true o1;have r5:=Kd.R_putg d8.out (d6:Int) (Int.tmod (wrap64 ((rd d4 d6)+d5)) 1000000000);go_wp2_with (first|((with_reducible refine gate_store (t:=3) (p:=34) rfl ?_);refine store_event (t:=3) (p:=34) (v:=?vo_w13) (w1:=(wr.setCell ⟨o2,(d6:Int).toNat,none⟩ (.int .i64 (Int.tmod (wrap64 ((rd d4 d6)+d5)) 1000000000)))) ?hg ?ho ?hn ?hr ?_;(case ho=>rfl);(case hg=>rfl);(case hn=>rfl);(case hr=>first|(go_simp;done)|(go_simp;rfl));intro r6 hw;have hg:wr.grownBy r6 (some o2):=(by rw[hw];exact r5.2);have hp_:Kd.R (Kd.int .i64) 3 r6 a9.heap.size (fun k_=>(a6 k_∨w.heap.size≤k_)) (.slice (some ⟨o2,0,none⟩) d4.length d0) n7:=(by rw[hw,n9.out];exact r5.1);clear r5;replace HK:=aM (Kept.of_grown (S:=(fun k_=>a6 k_)) hg (kK HK) (fun k_ e_=>(d8.out.1 k_ e_)));replace d8:=aM (hp_);replace HB:=aM ((by rw[hw];exact below_set (HB.out) o9.out:Below a9.heap.size a9 r6));clear hg hw hp_))
     (try simp only[← d9])
     go_roundg k1
     case measure=>have:=d7.out;omega
     case rel=>exact⟨(n7),(wrap64 (Int.tdiv (wrap64 ((rd d4 d6)+d5)) 1000000000)),(wrap64 (d6+1)),sD,sD,H',⟨by have:=d7.out;omega⟩,⟨by(try simp only[d9]);(with_reducible repeat(first|apply Kd.R_alloc|apply Kd.R_drewN|apply Kd.R_drew));exact d8.out⟩,⟨kK HK⟩,⟨pB⟩⟩
   ·rw[if_neg c4] at H;have e6:decide (d6 < (l0.length:Int))=false:=decide_eq_false c4;have e7:=e6;(try simp only[d9] at e7)
    clear c4;obtain rfl:=Option.some.inj H;go_wp2
    first|go_end0|((try simp only[Exit.inBlock,Exit.then]);refine bodyPost_ret (results_none rfl _ _ _) rfl ?_)
    exact⟨eW,(by first|exact(rX d8.out)|(simp only[d9];exact(rX d8.out))),pB,kK HK⟩

end Go.Proofs.Ytnklckihalhlmaa.Print
