import Derived.Test.YtokkiljkgejnhaaPrint0
import Derived.Test.YtokkiljkgejnhaaPrint15
import Derived.Test.YtokkiljkgejnhaaPrint18
namespace Go.Proofs.Ytokkiljkgejnhaa.Print
open Go.RowKit Go.Proofs.YtokkiljkgejnhaaW.PrintWords Go.Proofs.YtokkiljkgejnhaaW.PrintLast Go.Proofs.YtokkiljkgejnhaaW.PrintMore
attribute [local go_sem] max2_int min2_int max_two min_two max_three min_three max_four min_four
set_option linter.unusedVariables false
set_option maxRecDepth 100000
set_option maxHeartbeats 8000000
set_option linter.unusedSimpArgs false

theorem win_rd (L x R:List Int) (i:Int) (a6:0≤i) (a7:i < (x.length:Int)):rd (L ++ x ++ R) ((L.length:Int)+i)=rd x i:=by
  unfold rd;have e:((L.length:Int)+i).toNat=L.length+i.toNat:=by omega
  simp only[List.getD_eq_getElem?_getD];rw[e,List.append_assoc,List.getElem?_append_right (by omega),Nat.add_sub_cancel_left,List.getElem?_append_left (by omega)]
theorem win_set (L x R:List Int) (i:Int) (v:Int) (a6:0≤i) (a7:i < (x.length:Int)):(L ++ x ++ R).set ((L.length:Int)+i).toNat v=L ++ x.set i.toNat v ++ R:=by
  have e:((L.length:Int)+i).toNat=L.length+i.toNat:=by omega
  rw[e,List.append_assoc,List.set_append_right _ _ (by omega),Nat.add_sub_cancel_left,List.set_append_left _ _ (by omega),List.append_assoc]
section
variable {e B g n c : Nat} {w : World} {ok : Nat → Prop} {L x R : List Int}
theorem win_cell (h:Kd.R (Kd.int .i64) e w B ok (.slice (some ⟨g,0,none⟩) n c) (L ++ x ++ R)) (i:Int) (a6:0≤i) (a7:i < (x.length:Int)) :
    w.cell? ((⟨g,L.length,none⟩:Addr).add i.toNat)=some (.int .i64 (rd x i))∧w.frozen? ((⟨g,L.length,none⟩:Addr).add i.toNat)=false:=by
  have hn:=(Kd.R_reads' h).1;have hl:(L ++ x ++ R).length=L.length+x.length+R.length:=by simp [Nat.add_assoc]
  obtain⟨a8,b4⟩:=Kd.R_celln 0 h ((L.length:Int)+i) (by omega) (by omega)
  have ea:(⟨g,L.length,none⟩:Addr).add i.toNat=⟨g,((L.length:Int)+i).toNat,none⟩:=by
    have e:((L.length:Int)+i).toNat=L.length+i.toNat:=by omega
    rw[e];unfold Addr.add;split <;> simp_all
  rw[ea];refine⟨a8.trans ?_,b4⟩;show some (Value.int .i64 (rd (L ++ x ++ R) ((L.length:Int)+i)))=_
  rw[win_rd L x R i a6 a7]
theorem win_put (h:Kd.R (Kd.int .i64) e w B ok (.slice (some ⟨g,0,none⟩) n c) (L ++ x ++ R)) (i:Int) (a6:0≤i) (a7:i < (x.length:Int)) (v:Int) :
    Kd.R (Kd.int .i64) e (w.setCell ((⟨g,L.length,none⟩:Addr).add i.toNat) (.int .i64 v)) B ok (.slice (some ⟨g,0,none⟩) n c) (L ++ x.set i.toNat v ++ R)∧w.grownBy (w.setCell ((⟨g,L.length,none⟩:Addr).add i.toNat) (.int .i64 v)) (some g):=by
  have ea:(⟨g,L.length,none⟩:Addr).add i.toNat=⟨g,((L.length:Int)+i).toNat,none⟩:=by
    have e:((L.length:Int)+i).toNat=L.length+i.toNat:=by omega
    rw[e];unfold Addr.add;split <;> simp_all
  rw[ea,← win_set L x R i v a6 a7];exact Kd.R_putg h ((L.length:Int)+i) v
end
def Dzm.f (k:Nat) (U:List Int) (lo hi:Int) (l1:List Int) (a2:Int):Option (Bool × List Int):=if 0≤lo∧lo < hi∧hi≤(U.length:Int) then(Bzm.f k ((U.take hi.toNat).drop lo.toNat) l1 a2).bind fun r=>some (r.1,U.take lo.toNat ++ r.2 ++ U.drop hi.toNat) else none
theorem Dzm.mono:∀ a6 a7 a8 b4 b5 k,LeO (Dzm.f k a6 a7 a8 b4 b5) (Dzm.f (k+1) a6 a7 a8 b4 b5):=by
 intro a6 a7 a8 b4 b5 k;unfold Dzm.f;exact LeO.ite (LeO.bind (Bzm.mono _ _ _ k) (fun _=>LeO.refl _)) (LeO.none _)
theorem Dzm.inner (k:Nat) (a6:Nat→Prop) (gW cU cW nU:Nat) (UL l0 UR:List Int) (a7:Option Addr) (a8:Nat) (l1:List Int) (b4:Int) (b5:Bool) (b6:List Int) (b7 w:World) (hB:Below b7.heap.size b7 w) (b8:Kd.R (Kd.int .i64) 3 w b7.heap.size a6 (.slice (some ⟨gW,0,none⟩) nU cU) (UL ++ l0 ++ UR)) (hgW:b7.heap.size≤gW) (hPW:a6 gW) (b9:∀ W_,Kept w W_ (fun k_=>a6 k_)→Kd.C (Kd.int .i64) W_ a7 l1.length l1) (d0:l1.length≤a8) (h:Bzm.f k l0 l1 b4=some (b5,b6)) :
  Calls Try.prog 101 #[.slice (some ⟨gW,UL.length,none⟩) l0.length cW,.slice a7 l1.length a8,.int .i64 b4] w fun e w'=>e=.returned (.bool b5)∧Kd.R (Kd.int .i64) 3 w' b7.heap.size (fun k_=>(a6 k_∨w.heap.size≤k_)) (.slice (some ⟨gW,0,none⟩) nU cU) (UL ++ b6 ++ UR)∧Below b7.heap.size b7 w'∧Kept w w' (fun k_=>a6 k_):=by
 have d6:=aM (show Kd.R (Kd.int .i64) 3 w b7.heap.size (fun k_=>(a6 k_∨w.heap.size≤k_)) (.slice (some ⟨gW,0,none⟩) nU cU) (UL ++ l0 ++ UR) from Kd.R_mono b8 (fun k_ hk=>(.inl hk)))
 have HMW:=aM (show(a6 gW∨w.heap.size≤gW) from .inl hPW)
 obtain⟨adW,hadW⟩:∃ a_:Addr,a_=(⟨gW,UL.length,none⟩:Addr):=⟨_,rfl⟩;rw[← hadW];have GBW:=aM (show ∀ j_,b7.heap.size≤(adW.add j_).block from fun j_=>by rw[hadW];unfold Addr.add;split <;> exact hgW)
 have HAW:=aM hadW;clear hadW hgW hPW b8;have d7:=aM b9;have d8:=aM d0;clear b9 d0;have HK:=aM (Kept.refl w (fun k_=>a6 k_))
 have HW0:=aM hB.size;have HB:=aM hB;clear hB;have H:(Bzm.l0 k l0 l1 b4 0 (l0.length:Int) 0)=some (b5,b6):=h;clear h;have H':=aM H;clear H;go_enter Try.func101,Try.ntmps101
 go_wp2
 go_loopg [7,12] k (fun kq d9 e6 w'=>∃ (e7:List Int) (e8:Int) (e9:Int),d9=.int .i64 e8∧e6=.int .i64 e9∧Aside0 (Bzm.l0 kq e7 l1 b4 e8 (l0.length:Int) e9=some (b5,b6))∧Aside0 (kq≤k)∧Aside0 (Kd.R (Kd.int .i64) 3 w' b7.heap.size (fun k_=>(a6 k_∨w.heap.size≤k_)) (.slice (some ⟨gW,0,none⟩) nU cU) (UL ++ e7 ++ UR))∧Aside0 (l0.length=e7.length)∧Aside0 (Kept w w' (fun k_=>a6 k_))∧Aside0 (Below b7.heap.size b7 w'))
 case atStart=>exact⟨(l0),(0),(0),sD,sD,H',⟨Nat.le_refl _⟩,⟨rX d6.out⟩,⟨rfl⟩,⟨kK HK⟩,⟨pB⟩⟩
 case round =>
  clear H';try clear a8
  try clear f3
  obtain⟨e7,e8,e9,rfl,rfl,HA,f4,f6,HLX,HK,HB⟩:=hrel;have f9:=HLX.out;(try simp only[f9])
  cases gk with
  | zero=>exact absurd HA.out (by simp [Bzm.l0])
  | succ k1 =>
   have H:=HA.out;clear HA;simp only[Bzm.l0] at H;by_cases c5:e9 < (l0.length:Int)
   ·rw[if_pos c5] at H;have g4:=dE c5;clear c5;obtain⟨g5,H⟩:=iN H;obtain⟨g6,H⟩:=iN H;by_cases c8:e9 < (l1.length:Int)
    ·rw[if_pos c8] at H;have g7:=dE c8;clear c8;by_cases c9:(wrap64 ((wrap64 ((rd e7 e9) - e8)) - (wrap64 (b4 * (rd l1 e9))))) < 0
     ·rw[if_pos c9] at H;have g8:decide ((wrap64 ((wrap64 ((rd e7 e9) - e8)) - (wrap64 (b4 * (rd l1 e9))))) < 0)=true:=dE c9;have g9:decide ((IntKind.i64.wrap ((IntKind.i64.wrap ((rd e7 e9) - e8)) - (IntKind.i64.wrap (b4 * (rd l1 e9))))) < 0)=true:=by have h_:=g8;first|exact h_|(simp only[i64_w];exact h_)
      have g9:decide ((IntKind.i64.wrap ((IntKind.i64.wrap ((rd e7 e9) - e8)) - (IntKind.i64.wrap (b4 * (rd l1 e9))))) < 0)=true:=by have h_:=g8;first|exact h_|(simp only[i64_w];exact h_)
      clear c9;obtain⟨j5,j6⟩:∃ y_:List Int,y_=(e7.set (e9:Int).toNat (wrap64 ((wrap64 ((wrap64 ((rd e7 e9) - e8)) - (wrap64 (b4 * (rd l1 e9)))))+(wrap64 ((wrap64 (Int.tdiv (wrap64 ((wrap64 ((wrap64 (-(wrap64 ((wrap64 ((rd e7 e9) - e8)) - (wrap64 (b4 * (rd l1 e9)))))))+1000000000)) - 1)) 1000000000)) * 1000000000))))):=⟨_,rfl⟩;replace H:(Bzm.l0 k1 j5 l1 b4 (wrap64 (Int.tdiv (wrap64 ((wrap64 ((wrap64 (-(wrap64 ((wrap64 ((rd e7 e9) - e8)) - (wrap64 (b4 * (rd l1 e9)))))))+1000000000)) - 1)) 1000000000)) (l0.length:Int) (wrap64 (e9+1)))=some (b5,b6):=yE j6 H
      have j7:=aM j6;clear j6;have H':=aM H;clear H;have j8:0≤(e9:Int):=oE aS
      have j9:e9 < (e7.length:Int):=oE aS
      have l5:=(win_cell f6.out e9 j8 j9).1;rw[← HAW.out] at l5;replace j8:=eq_true j8;replace j9:=eq_true j9;obtain⟨l6,l7,l8,l9,m0⟩:=aI (Kd.C_kept_now d7.out HK.out) e9;cases l7;obtain⟨m2,m3⟩:=win_cell f6.out (e9:Int) (oE aS) (oE aS);rw[← HAW.out] at m2 m3;have m4:=eT (e9);have m5:=eU (e9) e7.length;have m6:=win_put f6.out (e9:Int) (of_eq_true m4) (of_eq_true m5) (wrap64 ((wrap64 ((wrap64 ((rd e7 e9) - e8)) - (wrap64 (b4 * (rd l1 e9)))))+(wrap64 ((wrap64 (Int.tdiv (wrap64 ((wrap64 ((wrap64 (-(wrap64 ((wrap64 ((rd e7 e9) - e8)) - (wrap64 (b4 * (rd l1 e9)))))))+1000000000)) - 1)) 1000000000)) * 1000000000))));rw[← HAW.out] at m6;go_wp2_with (first|((with_reducible refine gate_store (t:=3) (p:=47) rfl ?_);refine store_event (t:=3) (p:=47) (v:=?vo_w12) (w1:=(wr.setCell (adW.add (e9:Int).toNat) (.int .i64 (wrap64 ((wrap64 ((wrap64 ((rd e7 e9) - e8)) - (wrap64 (b4 * (rd l1 e9)))))+(wrap64 ((wrap64 (Int.tdiv (wrap64 ((wrap64 ((wrap64 (-(wrap64 ((wrap64 ((rd e7 e9) - e8)) - (wrap64 (b4 * (rd l1 e9)))))))+1000000000)) - 1)) 1000000000)) * 1000000000))))))) ?hg ?ho ?hn ?hr ?_;(case ho=>rfl);(case hg=>rfl);(case hn=>rfl);(case hr=>first|(go_simp;done)|(go_simp;rfl));intro m7 hw;have hg:wr.grownBy m7 (some gW):=(by rw[hw];exact m6.2);have hp_:Kd.R (Kd.int .i64) 3 m7 b7.heap.size (fun k_=>(a6 k_∨w.heap.size≤k_)) (.slice (some ⟨gW,0,none⟩) nU cU) (UL ++ j5 ++ UR):=(by rw[hw,j7.out];exact m6.1);clear m6;replace HK:=aM (Kept.of_grown (S:=(fun k_=>a6 k_)) hg (kK HK) (fun k_ e_=>(f6.out.1 k_ e_)));replace f6:=aM (hp_);replace HB:=aM ((by rw[hw];exact Below.setCell (HB.out) (GBW.out _) _:Below b7.heap.size b7 m7));clear hg hw hp_))
      (try simp only[← f9])
      go_roundg k1
      case measure=>have:=f4.out;omega
      case rel=>exact⟨(j5),(wrap64 (Int.tdiv (wrap64 ((wrap64 ((wrap64 (-(wrap64 ((wrap64 ((rd e7 e9) - e8)) - (wrap64 (b4 * (rd l1 e9)))))))+1000000000)) - 1)) 1000000000)),(wrap64 (e9+1)),sD,sD,H',⟨by have:=f4.out;omega⟩,⟨f6.out⟩,⟨by rw[j7.out,List.length_set];exact HLX.out⟩,⟨kK HK⟩,⟨pB⟩⟩
     ·rw[if_neg c9] at H;have g8:decide ((wrap64 ((wrap64 ((rd e7 e9) - e8)) - (wrap64 (b4 * (rd l1 e9))))) < 0)=false:=decide_eq_false c9;have g9:decide ((IntKind.i64.wrap ((IntKind.i64.wrap ((rd e7 e9) - e8)) - (IntKind.i64.wrap (b4 * (rd l1 e9))))) < 0)=false:=by have h_:=g8;first|exact h_|(simp only[i64_w];exact h_)
      have g9:decide ((IntKind.i64.wrap ((IntKind.i64.wrap ((rd e7 e9) - e8)) - (IntKind.i64.wrap (b4 * (rd l1 e9))))) < 0)=false:=by have h_:=g8;first|exact h_|(simp only[i64_w];exact h_)
      clear c9;obtain⟨m8,m9⟩:∃ y_:List Int,y_=(e7.set (e9:Int).toNat (wrap64 ((wrap64 ((rd e7 e9) - e8)) - (wrap64 (b4 * (rd l1 e9)))))):=⟨_,rfl⟩;replace H:(Bzm.l0 k1 m8 l1 b4 0 (l0.length:Int) (wrap64 (e9+1)))=some (b5,b6):=yE m9 H
      have n0:=aM m9;clear m9;have H':=aM H;clear H;have j8:0≤(e9:Int):=oE aS
      have j9:e9 < (e7.length:Int):=oE aS
      have l5:=(win_cell f6.out e9 j8 j9).1;rw[← HAW.out] at l5;replace j8:=eq_true j8;replace j9:=eq_true j9;obtain⟨l6,l7,l8,l9,m0⟩:=aI (Kd.C_kept_now d7.out HK.out) e9;cases l7;obtain⟨n6,n7⟩:=win_cell f6.out (e9:Int) (oE aS) (oE aS);rw[← HAW.out] at n6 n7;have n8:=eT (e9);have n9:=eU (e9) e7.length;have o0:=win_put f6.out (e9:Int) (of_eq_true n8) (of_eq_true n9) (wrap64 ((wrap64 ((rd e7 e9) - e8)) - (wrap64 (b4 * (rd l1 e9)))));rw[← HAW.out] at o0;go_wp2_with (first|((with_reducible refine gate_store (t:=3) (p:=47) rfl ?_);refine store_event (t:=3) (p:=47) (v:=?vo_w15) (w1:=(wr.setCell (adW.add (e9:Int).toNat) (.int .i64 (wrap64 ((wrap64 ((rd e7 e9) - e8)) - (wrap64 (b4 * (rd l1 e9)))))))) ?hg ?ho ?hn ?hr ?_;(case ho=>rfl);(case hg=>rfl);(case hn=>rfl);(case hr=>first|(go_simp;done)|(go_simp;rfl));intro o8 hw;have hg:wr.grownBy o8 (some gW):=(by rw[hw];exact o0.2);have hp_:Kd.R (Kd.int .i64) 3 o8 b7.heap.size (fun k_=>(a6 k_∨w.heap.size≤k_)) (.slice (some ⟨gW,0,none⟩) nU cU) (UL ++ m8 ++ UR):=(by rw[hw,n0.out];exact o0.1);clear o0;replace HK:=aM (Kept.of_grown (S:=(fun k_=>a6 k_)) hg (kK HK) (fun k_ e_=>(f6.out.1 k_ e_)));replace f6:=aM (hp_);replace HB:=aM ((by rw[hw];exact Below.setCell (HB.out) (GBW.out _) _:Below b7.heap.size b7 o8));clear hg hw hp_))
      (try simp only[← f9])
      go_roundg k1
      case measure=>have:=f4.out;omega
      case rel=>exact⟨(m8),(0),(wrap64 (e9+1)),sD,sD,H',⟨by have:=f4.out;omega⟩,⟨f6.out⟩,⟨by rw[n0.out,List.length_set];exact HLX.out⟩,⟨kK HK⟩,⟨pB⟩⟩
    ·rw[if_neg c8] at H;have g7:decide (e9 < (l1.length:Int))=false:=decide_eq_false c8;have o9:=g7;(try simp only[f9] at o9)
     clear c8;by_cases p0:(wrap64 ((rd e7 e9) - e8)) < 0
     ·rw[if_pos p0] at H;have p4:decide ((wrap64 ((rd e7 e9) - e8)) < 0)=true:=dE p0;have p5:decide ((IntKind.i64.wrap ((rd e7 e9) - e8)) < 0)=true:=by have h_:=p4;first|exact h_|(simp only[i64_w];exact h_)
      have p5:decide ((IntKind.i64.wrap ((rd e7 e9) - e8)) < 0)=true:=by have h_:=p4;first|exact h_|(simp only[i64_w];exact h_)
      clear p0;obtain⟨p9,r5⟩:∃ y_:List Int,y_=(e7.set (e9:Int).toNat (wrap64 ((wrap64 ((rd e7 e9) - e8))+(wrap64 ((wrap64 (Int.tdiv (wrap64 ((wrap64 ((wrap64 (-(wrap64 ((rd e7 e9) - e8))))+1000000000)) - 1)) 1000000000)) * 1000000000))))):=⟨_,rfl⟩;replace H:(Bzm.l0 k1 p9 l1 b4 (wrap64 (Int.tdiv (wrap64 ((wrap64 ((wrap64 (-(wrap64 ((rd e7 e9) - e8))))+1000000000)) - 1)) 1000000000)) (l0.length:Int) (wrap64 (e9+1)))=some (b5,b6):=yE r5 H
      have r6:=aM r5;clear r5;have H':=aM H;clear H;have j8:0≤(e9:Int):=oE aS
      have j9:e9 < (e7.length:Int):=oE aS
      have l5:=(win_cell f6.out e9 j8 j9).1;rw[← HAW.out] at l5;replace j8:=eq_true j8;replace j9:=eq_true j9;obtain⟨r7,r8⟩:=win_cell f6.out (e9:Int) (oE aS) (oE aS);rw[← HAW.out] at r7 r8;have r9:=eT (e9);have t6:=eU (e9) e7.length;have t7:=win_put f6.out (e9:Int) (of_eq_true r9) (of_eq_true t6) (wrap64 ((wrap64 ((rd e7 e9) - e8))+(wrap64 ((wrap64 (Int.tdiv (wrap64 ((wrap64 ((wrap64 (-(wrap64 ((rd e7 e9) - e8))))+1000000000)) - 1)) 1000000000)) * 1000000000))));rw[← HAW.out] at t7;go_wp2_with (first|((with_reducible refine gate_store (t:=3) (p:=47) rfl ?_);refine store_event (t:=3) (p:=47) (v:=?vo_w19) (w1:=(wr.setCell (adW.add (e9:Int).toNat) (.int .i64 (wrap64 ((wrap64 ((rd e7 e9) - e8))+(wrap64 ((wrap64 (Int.tdiv (wrap64 ((wrap64 ((wrap64 (-(wrap64 ((rd e7 e9) - e8))))+1000000000)) - 1)) 1000000000)) * 1000000000))))))) ?hg ?ho ?hn ?hr ?_;(case ho=>rfl);(case hg=>rfl);(case hn=>rfl);(case hr=>first|(go_simp;done)|(go_simp;rfl));intro t8 hw;have hg:wr.grownBy t8 (some gW):=(by rw[hw];exact t7.2);have hp_:Kd.R (Kd.int .i64) 3 t8 b7.heap.size (fun k_=>(a6 k_∨w.heap.size≤k_)) (.slice (some ⟨gW,0,none⟩) nU cU) (UL ++ p9 ++ UR):=(by rw[hw,r6.out];exact t7.1);clear t7;replace HK:=aM (Kept.of_grown (S:=(fun k_=>a6 k_)) hg (kK HK) (fun k_ e_=>(f6.out.1 k_ e_)));replace f6:=aM (hp_);replace HB:=aM ((by rw[hw];exact Below.setCell (HB.out) (GBW.out _) _:Below b7.heap.size b7 t8));clear hg hw hp_))
      (try simp only[← f9])
      go_roundg k1
      case measure=>have:=f4.out;omega
      case rel=>exact⟨(p9),(wrap64 (Int.tdiv (wrap64 ((wrap64 ((wrap64 (-(wrap64 ((rd e7 e9) - e8))))+1000000000)) - 1)) 1000000000)),(wrap64 (e9+1)),sD,sD,H',⟨by have:=f4.out;omega⟩,⟨f6.out⟩,⟨by rw[r6.out,List.length_set];exact HLX.out⟩,⟨kK HK⟩,⟨pB⟩⟩
     ·rw[if_neg p0] at H;have p4:decide ((wrap64 ((rd e7 e9) - e8)) < 0)=false:=decide_eq_false p0;have p5:decide ((IntKind.i64.wrap ((rd e7 e9) - e8)) < 0)=false:=by have h_:=p4;first|exact h_|(simp only[i64_w];exact h_)
      have p5:decide ((IntKind.i64.wrap ((rd e7 e9) - e8)) < 0)=false:=by have h_:=p4;first|exact h_|(simp only[i64_w];exact h_)
      clear p0;obtain⟨z1,z2⟩:∃ y_:List Int,y_=(e7.set (e9:Int).toNat (wrap64 ((rd e7 e9) - e8))):=⟨_,rfl⟩;replace H:(Bzm.l0 k1 z1 l1 b4 0 (l0.length:Int) (wrap64 (e9+1)))=some (b5,b6):=yE z2 H
      have z6:=aM z2;clear z2;have H':=aM H;clear H;have j8:0≤(e9:Int):=oE aS
      have j9:e9 < (e7.length:Int):=oE aS
      have l5:=(win_cell f6.out e9 j8 j9).1;rw[← HAW.out] at l5;replace j8:=eq_true j8;replace j9:=eq_true j9;obtain⟨z7,z8⟩:=win_cell f6.out (e9:Int) (oE aS) (oE aS);rw[← HAW.out] at z7 z8;have B0:=eT (e9);have B5:=eU (e9) e7.length;have B6:=win_put f6.out (e9:Int) (of_eq_true B0) (of_eq_true B5) (wrap64 ((rd e7 e9) - e8));rw[← HAW.out] at B6;go_wp2_with (first|((with_reducible refine gate_store (t:=3) (p:=47) rfl ?_);refine store_event (t:=3) (p:=47) (v:=?vo_w22) (w1:=(wr.setCell (adW.add (e9:Int).toNat) (.int .i64 (wrap64 ((rd e7 e9) - e8))))) ?hg ?ho ?hn ?hr ?_;(case ho=>rfl);(case hg=>rfl);(case hn=>rfl);(case hr=>first|(go_simp;done)|(go_simp;rfl));intro B8 hw;have hg:wr.grownBy B8 (some gW):=(by rw[hw];exact B6.2);have hp_:Kd.R (Kd.int .i64) 3 B8 b7.heap.size (fun k_=>(a6 k_∨w.heap.size≤k_)) (.slice (some ⟨gW,0,none⟩) nU cU) (UL ++ z1 ++ UR):=(by rw[hw,z6.out];exact B6.1);clear B6;replace HK:=aM (Kept.of_grown (S:=(fun k_=>a6 k_)) hg (kK HK) (fun k_ e_=>(f6.out.1 k_ e_)));replace f6:=aM (hp_);replace HB:=aM ((by rw[hw];exact Below.setCell (HB.out) (GBW.out _) _:Below b7.heap.size b7 B8));clear hg hw hp_))
      (try simp only[← f9])
      go_roundg k1
      case measure=>have:=f4.out;omega
      case rel=>exact⟨(z1),(0),(wrap64 (e9+1)),sD,sD,H',⟨by have:=f4.out;omega⟩,⟨f6.out⟩,⟨by rw[z6.out,List.length_set];exact HLX.out⟩,⟨kK HK⟩,⟨pB⟩⟩
   ·rw[if_neg c5] at H;have g4:decide (e9 < (l0.length:Int))=false:=decide_eq_false c5;have B9:=g4;(try simp only[f9] at B9)
    clear c5;obtain⟨rfl,rfl⟩:=q2 H;go_wp2
    go_ret
    exact⟨eW,(by first|exact f6.out|(rw[← List.append_assoc];exact f6.out)),pB,kK HK⟩
theorem Dzm.calls (k:Nat) (a6:Nat→Prop) (a7:Option Addr) (a8 nU:Nat) (U:List Int) (lo hi:Int) (AW:Option Addr) (cW yl:Nat) (hAW:AW=if a8=lo.toNat then a7 else a7.map (·.add (lo.toNat * 1))) (hyl:yl=hi.toNat - lo.toNat) (b4:Option Addr) (b5:Nat) (l1:List Int) (b6:Int) (b7:Bool) (b8:List Int) (b9 w:World) (hB:Below b9.heap.size b9 w) (d0:Kd.R (Kd.int .i64) 3 w b9.heap.size a6 (.slice a7 nU a8) U) (d6:∀ W_,Kept w W_ (fun k_=>a6 k_)→Kd.C (Kd.int .i64) W_ b4 l1.length l1) (d7:l1.length≤b5) (h:Dzm.f k U lo hi l1 b6=some (b7,b8)) :
  Calls Try.prog 101 #[.slice AW yl cW,.slice b4 l1.length b5,.int .i64 b6] w fun e w'=>e=.returned (.bool b7)∧Kd.R (Kd.int .i64) 3 w' b9.heap.size (fun k_=>(a6 k_∨w.heap.size≤k_)) (.slice a7 nU a8) b8∧Below b9.heap.size b9 w'∧Kept w w' (fun k_=>a6 k_):=by
 unfold Dzm.f at h;split at h
 rotate_left
 ·simp at h
 rename_i hc_
 obtain⟨d8,hlo,hhi⟩:=hc_;rw[Option.bind_eq_some_iff] at h;obtain⟨d9,e6,h⟩:=h;have hnU:=(Kd.R_reads' d0).1;have hwl:yl=((U.take hi.toNat).drop lo.toNat).length:=by rw[hyl,List.length_drop,List.length_take];omega
 rw[hwl];simp only[Option.some.injEq,Prod.mk.injEq] at h;obtain⟨rfl,rfl⟩:=h;obtain⟨go,co,eo,gb,gl,_,_⟩:=Kd.R_form d0 (by omega)
 have hgo:a7=some ⟨go,0,none⟩:=by injection eo
 subst hgo;have hcap:=(Kd.R_reads' d0).2.1;have hcap':U.length≤a8:=by omega
 have hAW':AW=some ⟨go,(U.take lo.toNat).length,none⟩:=by
  rw[hAW,if_neg (by omega),List.length_take,Nat.min_eq_left (by omega)]
  show some ((⟨go,0,none⟩:Addr).add _)=_
  rw[add_plain,Nat.mul_one]
 subst hAW';have eU:U.take lo.toNat ++ (U.take hi.toNat).drop lo.toNat ++ U.drop hi.toNat=U:=by
  have e7:U.take lo.toNat=(U.take hi.toNat).take lo.toNat:=by rw[List.take_take,Nat.min_eq_left (by omega)]
  rw[e7,List.take_append_drop,List.take_append_drop]
 exact Dzm.inner k a6 go a8 cW nU (U.take lo.toNat) ((U.take hi.toNat).drop lo.toNat) (U.drop hi.toNat) b4 b5 l1 b6 d9.1 d9.2 b9 w hB (by rw[eU];exact d0) gb (d0.1 go rfl) d6 d7 e6
def Dzb.f (k:Nat) (U:List Int) (lo hi:Int) (l1:List Int):Option (List Int):=if 0≤lo∧lo < hi∧hi≤(U.length:Int) then(Czj.f k ((U.take hi.toNat).drop lo.toNat) l1).bind fun r=>some (U.take lo.toNat ++ r ++ U.drop hi.toNat) else none
theorem Dzb.mono:∀ a6 a7 a8 b4 k,LeO (Dzb.f k a6 a7 a8 b4) (Dzb.f (k+1) a6 a7 a8 b4):=by
 intro a6 a7 a8 b4 k;unfold Dzb.f;exact LeO.ite (LeO.bind (Czj.mono _ _ k) (fun _=>LeO.refl _)) (LeO.none _)
theorem Dzb.inner (k:Nat) (a6:Nat→Prop) (gW cU cW nU:Nat) (UL l0 UR:List Int) (a7:Option Addr) (a8:Nat) (l1:List Int) (r:List Int) (b4 w:World) (hB:Below b4.heap.size b4 w) (b5:Kd.R (Kd.int .i64) 3 w b4.heap.size a6 (.slice (some ⟨gW,0,none⟩) nU cU) (UL ++ l0 ++ UR)) (hgW:b4.heap.size≤gW) (hPW:a6 gW) (b6:∀ W_,Kept w W_ (fun k_=>a6 k_)→Kd.C (Kd.int .i64) W_ a7 l1.length l1) (b7:l1.length≤a8) (h:Czj.f k l0 l1=some r) :
  Calls Try.prog 102 #[.slice (some ⟨gW,UL.length,none⟩) l0.length cW,.slice a7 l1.length a8] w fun e w'=>e=.returned (.tuple #[])∧Kd.R (Kd.int .i64) 3 w' b4.heap.size (fun k_=>(a6 k_∨w.heap.size≤k_)) (.slice (some ⟨gW,0,none⟩) nU cU) (UL ++ r ++ UR)∧Below b4.heap.size b4 w'∧Kept w w' (fun k_=>a6 k_):=by
 have b8:=aM (show Kd.R (Kd.int .i64) 3 w b4.heap.size (fun k_=>(a6 k_∨w.heap.size≤k_)) (.slice (some ⟨gW,0,none⟩) nU cU) (UL ++ l0 ++ UR) from Kd.R_mono b5 (fun k_ hk=>(.inl hk)))
 have HMW:=aM (show(a6 gW∨w.heap.size≤gW) from .inl hPW)
 obtain⟨adW,hadW⟩:∃ a_:Addr,a_=(⟨gW,UL.length,none⟩:Addr):=⟨_,rfl⟩;rw[← hadW];have GBW:=aM (show ∀ j_,b4.heap.size≤(adW.add j_).block from fun j_=>by rw[hadW];unfold Addr.add;split <;> exact hgW)
 have HAW:=aM hadW;clear hadW hgW hPW b5;have b9:=aM b6;have d0:=aM b7;clear b6 b7;have HK:=aM (Kept.refl w (fun k_=>a6 k_))
 have HW0:=aM hB.size;have HB:=aM hB;clear hB;have H:(Czj.l0 k l0 l1 0 (l0.length:Int) 0)=some r:=h;clear h;have H':=aM H;clear H;go_enter Try.func102,Try.ntmps102
 go_wp2
 go_loopg [4,9] k (fun kq d6 d7 w'=>∃ (d8:List Int) (d9:Int) (e6:Int),d6=.int .i64 d9∧d7=.int .i64 e6∧Aside0 (Czj.l0 kq d8 l1 d9 (l0.length:Int) e6=some r)∧Aside0 (kq≤k)∧Aside0 (Kd.R (Kd.int .i64) 3 w' b4.heap.size (fun k_=>(a6 k_∨w.heap.size≤k_)) (.slice (some ⟨gW,0,none⟩) nU cU) (UL ++ d8 ++ UR))∧Aside0 (l0.length=d8.length)∧Aside0 (Kept w w' (fun k_=>a6 k_))∧Aside0 (Below b4.heap.size b4 w'))
 case atStart=>exact⟨(l0),(0),(0),sD,sD,H',⟨Nat.le_refl _⟩,⟨rX b8.out⟩,⟨rfl⟩,⟨kK HK⟩,⟨pB⟩⟩
 case round =>
  clear H';try clear a8
  try clear e7
  obtain⟨d8,d9,e6,rfl,rfl,HA,e8,e9,HLX,HK,HB⟩:=hrel;have f3:=HLX.out;(try simp only[f3])
  cases gk with
  | zero=>exact absurd HA.out (by simp [Czj.l0])
  | succ k1 =>
   have H:=HA.out;clear HA;simp only[Czj.l0] at H;by_cases c4:e6 < (l0.length:Int)
   ·rw[if_pos c4] at H;have f4:=dE c4;clear c4;obtain⟨f6,H⟩:=iN H;obtain⟨f9,H⟩:=iN H;by_cases c7:e6 < (l1.length:Int)
    ·rw[if_pos c7] at H;have g4:=dE c7;clear c7;obtain⟨g5,g6⟩:∃ y_:List Int,y_=(d8.set (e6:Int).toNat (Int.tmod (wrap64 ((wrap64 ((rd d8 e6)+d9))+(rd l1 e6))) 1000000000)):=⟨_,rfl⟩;replace H:(Czj.l0 k1 g5 l1 (wrap64 (Int.tdiv (wrap64 ((wrap64 ((rd d8 e6)+d9))+(rd l1 e6))) 1000000000)) (l0.length:Int) (wrap64 (e6+1)))=some r:=yE g6 H
     have g7:=aM g6;clear g6;have H':=aM H;clear H;have g8:0≤(e6:Int):=oE aS
     have g9:e6 < (d8.length:Int):=oE aS
     have j5:=(win_cell e9.out e6 g8 g9).1;rw[← HAW.out] at j5;replace g8:=eq_true g8;replace g9:=eq_true g9;obtain⟨j6,j7,j8,j9,l5⟩:=aI (Kd.C_kept_now b9.out HK.out) e6;cases j7;obtain⟨l6,l7⟩:=win_cell e9.out (e6:Int) (oE aS) (oE aS);rw[← HAW.out] at l6 l7;have l8:=eT (e6);have q8:=eU (e6) d8.length;have l9:=win_put e9.out (e6:Int) (of_eq_true l8) (of_eq_true q8) (Int.tmod (wrap64 ((wrap64 ((rd d8 e6)+d9))+(rd l1 e6))) 1000000000);rw[← HAW.out] at l9;go_wp2_with (first|((with_reducible refine gate_store (t:=3) (p:=34) rfl ?_);refine store_event (t:=3) (p:=34) (v:=?vo_w10) (w1:=(wr.setCell (adW.add (e6:Int).toNat) (.int .i64 (Int.tmod (wrap64 ((wrap64 ((rd d8 e6)+d9))+(rd l1 e6))) 1000000000)))) ?hg ?ho ?hn ?hr ?_;(case ho=>rfl);(case hg=>rfl);(case hn=>rfl);(case hr=>first|(go_simp;done)|(go_simp;rfl));intro m0 hw;have hg:wr.grownBy m0 (some gW):=(by rw[hw];exact l9.2);have hp_:Kd.R (Kd.int .i64) 3 m0 b4.heap.size (fun k_=>(a6 k_∨w.heap.size≤k_)) (.slice (some ⟨gW,0,none⟩) nU cU) (UL ++ g5 ++ UR):=(by rw[hw,g7.out];exact l9.1);clear l9;replace HK:=aM (Kept.of_grown (S:=(fun k_=>a6 k_)) hg (kK HK) (fun k_ e_=>(e9.out.1 k_ e_)));replace e9:=aM (hp_);replace HB:=aM ((by rw[hw];exact Below.setCell (HB.out) (GBW.out _) _:Below b4.heap.size b4 m0));clear hg hw hp_))
     (try simp only[← f3])
     go_roundg k1
     case measure=>have:=e8.out;omega
     case rel=>exact⟨(g5),(wrap64 (Int.tdiv (wrap64 ((wrap64 ((rd d8 e6)+d9))+(rd l1 e6))) 1000000000)),(wrap64 (e6+1)),sD,sD,H',⟨by have:=e8.out;omega⟩,⟨e9.out⟩,⟨by rw[g7.out,List.length_set];exact HLX.out⟩,⟨kK HK⟩,⟨pB⟩⟩
    ·rw[if_neg c7] at H;have g4:decide (e6 < (l1.length:Int))=false:=decide_eq_false c7;have m2:=g4;(try simp only[f3] at m2)
     clear c7;obtain⟨m3,m4⟩:∃ y_:List Int,y_=(d8.set (e6:Int).toNat (Int.tmod (wrap64 ((rd d8 e6)+d9)) 1000000000)):=⟨_,rfl⟩;replace H:(Czj.l0 k1 m3 l1 (wrap64 (Int.tdiv (wrap64 ((rd d8 e6)+d9)) 1000000000)) (l0.length:Int) (wrap64 (e6+1)))=some r:=yE m4 H
     have m5:=aM m4;clear m4;have H':=aM H;clear H;have g8:0≤(e6:Int):=oE aS
     have g9:e6 < (d8.length:Int):=oE aS
     have j5:=(win_cell e9.out e6 g8 g9).1;rw[← HAW.out] at j5;replace g8:=eq_true g8;replace g9:=eq_true g9;obtain⟨m6,m7⟩:=win_cell e9.out (e6:Int) (oE aS) (oE aS);rw[← HAW.out] at m6 m7;have m8:=eT (e6);have m9:=eU (e6) d8.length;have n0:=win_put e9.out (e6:Int) (of_eq_true m8) (of_eq_true m9) (Int.tmod (wrap64 ((rd d8 e6)+d9)) 1000000000);rw[← HAW.out] at n0;go_wp2_with (first|((with_reducible refine gate_store (t:=3) (p:=34) rfl ?_);refine store_event (t:=3) (p:=34) (v:=?vo_w13) (w1:=(wr.setCell (adW.add (e6:Int).toNat) (.int .i64 (Int.tmod (wrap64 ((rd d8 e6)+d9)) 1000000000)))) ?hg ?ho ?hn ?hr ?_;(case ho=>rfl);(case hg=>rfl);(case hn=>rfl);(case hr=>first|(go_simp;done)|(go_simp;rfl));intro n6 hw;have hg:wr.grownBy n6 (some gW):=(by rw[hw];exact n0.2);have hp_:Kd.R (Kd.int .i64) 3 n6 b4.heap.size (fun k_=>(a6 k_∨w.heap.size≤k_)) (.slice (some ⟨gW,0,none⟩) nU cU) (UL ++ m3 ++ UR):=(by rw[hw,m5.out];exact n0.1);clear n0;replace HK:=aM (Kept.of_grown (S:=(fun k_=>a6 k_)) hg (kK HK) (fun k_ e_=>(e9.out.1 k_ e_)));replace e9:=aM (hp_);replace HB:=aM ((by rw[hw];exact Below.setCell (HB.out) (GBW.out _) _:Below b4.heap.size b4 n6));clear hg hw hp_))
     (try simp only[← f3])
     go_roundg k1
     case measure=>have:=e8.out;omega
     case rel=>exact⟨(m3),(wrap64 (Int.tdiv (wrap64 ((rd d8 e6)+d9)) 1000000000)),(wrap64 (e6+1)),sD,sD,H',⟨by have:=e8.out;omega⟩,⟨e9.out⟩,⟨by rw[m5.out,List.length_set];exact HLX.out⟩,⟨kK HK⟩,⟨pB⟩⟩
   ·rw[if_neg c4] at H;have f4:decide (e6 < (l0.length:Int))=false:=decide_eq_false c4;have n7:=f4;(try simp only[f3] at n7)
    clear c4;obtain rfl:=Option.some.inj H;go_wp2
    first|go_end0|((try simp only[Exit.inBlock,Exit.then]);refine bodyPost_ret (results_none rfl _ _ _) rfl ?_)
    exact⟨eW,(by first|exact e9.out|(rw[← List.append_assoc];exact e9.out)),pB,kK HK⟩
theorem Dzb.calls (k:Nat) (a6:Nat→Prop) (a7:Option Addr) (a8 nU:Nat) (U:List Int) (lo hi:Int) (AW:Option Addr) (cW yl:Nat) (hAW:AW=if a8=lo.toNat then a7 else a7.map (·.add (lo.toNat * 1))) (hyl:yl=hi.toNat - lo.toNat) (b4:Option Addr) (b5:Nat) (l1:List Int) (r:List Int) (b6 w:World) (hB:Below b6.heap.size b6 w) (b7:Kd.R (Kd.int .i64) 3 w b6.heap.size a6 (.slice a7 nU a8) U) (b8:∀ W_,Kept w W_ (fun k_=>a6 k_)→Kd.C (Kd.int .i64) W_ b4 l1.length l1) (b9:l1.length≤b5) (h:Dzb.f k U lo hi l1=some r) :
  Calls Try.prog 102 #[.slice AW yl cW,.slice b4 l1.length b5] w fun e w'=>e=.returned (.tuple #[])∧Kd.R (Kd.int .i64) 3 w' b6.heap.size (fun k_=>(a6 k_∨w.heap.size≤k_)) (.slice a7 nU a8) r∧Below b6.heap.size b6 w'∧Kept w w' (fun k_=>a6 k_):=by
 unfold Dzb.f at h;split at h
 rotate_left
 ·simp at h
 rename_i hc_
 obtain⟨d0,hlo,hhi⟩:=hc_;rw[Option.bind_eq_some_iff] at h;obtain⟨d6,d7,h⟩:=h;have hnU:=(Kd.R_reads' b7).1;have hwl:yl=((U.take hi.toNat).drop lo.toNat).length:=by rw[hyl,List.length_drop,List.length_take];omega
 rw[hwl];obtain rfl:=Option.some.inj h;obtain⟨go,co,eo,gb,gl,_,_⟩:=Kd.R_form b7 (by omega)
 have hgo:a7=some ⟨go,0,none⟩:=by injection eo
 subst hgo;have hcap:=(Kd.R_reads' b7).2.1;have hcap':U.length≤a8:=by omega
 have hAW':AW=some ⟨go,(U.take lo.toNat).length,none⟩:=by
  rw[hAW,if_neg (by omega),List.length_take,Nat.min_eq_left (by omega)]
  show some ((⟨go,0,none⟩:Addr).add _)=_
  rw[add_plain,Nat.mul_one]
 subst hAW';have eU:U.take lo.toNat ++ (U.take hi.toNat).drop lo.toNat ++ U.drop hi.toNat=U:=by
  have d8:U.take lo.toNat=(U.take hi.toNat).take lo.toNat:=by rw[List.take_take,Nat.min_eq_left (by omega)]
  rw[d8,List.take_append_drop,List.take_append_drop]
 exact Dzb.inner k a6 go a8 cW nU (U.take lo.toNat) ((U.take hi.toNat).drop lo.toNat) (U.drop hi.toNat) b4 b5 l1 d6 b6 w hB (by rw[eU];exact b7) gb (b7.1 go rfl) b8 b9 d7

def Bzx.l0:Nat→Int→List Int→List Int→Int→List Int→Int→Option (List Int × List Int)
 | 0,_,_,_,_,_,_=>none
 | k+1,x6,x7,x8,x9,x10,x11=>if x11≥0 then(if 0≤x11 then(if x11≤(wrap64 ((wrap64 (x11+x9))+1)) then(if(wrap64 ((wrap64 (x11+x9))+1))≤(x7.length:Int) then((Bzf.f k ((x7.take ((wrap64 ((wrap64 (x11+x9))+1)):Int).toNat).drop (x11:Int).toNat) x8).bind fun t192=>((Dzm.f k x7 x11 (wrap64 ((wrap64 (x11+x9))+1)) x8 t192).bind fun bt193=>(if bt193.1=true then((Dzb.f k bt193.2 x11 (wrap64 ((wrap64 (x11+x9))+1)) x8).bind fun t195=>(if x11 < (x10.length:Int) then(Bzx.l0 k x6 t195 x8 x9 (x10.set (x11:Int).toNat (wrap64 (t192 - 1))) (wrap64 (x11 - 1))) else(none))) else(if x11 < (x10.length:Int) then(Bzx.l0 k x6 bt193.2 x8 x9 (x10.set (x11:Int).toNat t192) (wrap64 (x11 - 1))) else(none))))) else(none)) else(none)) else(none)) else(if 0≤x9 then(if x9≤(x7.length:Int) then((Azp.f k (x7.take (x9:Int).toNat)).bind fun t176=>((Czq.f k t176 x6).bind fun bt179=>((Azp.f k x10).bind fun t185=>(some (t185,bt179.1))))) else(none)) else(none))
def Bzx.f (k:Nat) (l0:List Int) (l1:List Int):Option (List Int × List Int):=if 0≤(wrap64 ((l1.length:Int) - 1)) then(if(wrap64 ((l1.length:Int) - 1)) < (l1.length:Int) then(if(wrap64 ((rd l1 (wrap64 ((l1.length:Int) - 1)))+1))=0 then(none) else((Czy.f k l0 (wrap64 (Int.tdiv (1000000000:Int) (wrap64 ((rd l1 (wrap64 ((l1.length:Int) - 1)))+1))))).bind fun t161=>((Czy.f k l1 (wrap64 (Int.tdiv (1000000000:Int) (wrap64 ((rd l1 (wrap64 ((l1.length:Int) - 1)))+1))))).bind fun t164=>(if 0≤(l1.length:Int) then(if(l1.length:Int)≤(t164.length:Int) then(if 0≤(wrap64 ((wrap64 ((l0.length:Int) - (l1.length:Int)))+1)) then(if(wrap64 ((wrap64 ((l0.length:Int) - (l1.length:Int)))+1):Int).toNat≤35184372088832 then((some (List.replicate (wrap64 ((wrap64 ((l0.length:Int) - (l1.length:Int)))+1):Int).toNat 0:List Int)).bind fun y170=>(Bzx.l0 k (wrap64 (Int.tdiv (1000000000:Int) (wrap64 ((rd l1 (wrap64 ((l1.length:Int) - 1)))+1)))) t161 (t164.take ((l1.length:Int):Int).toNat) (l1.length:Int) y170 (wrap64 ((y170.length:Int) - 1)))) else(none)) else(none)) else(none)) else(none))))) else(none)) else(none)
theorem Bzx.mono_l:∀ k,(∀ a6 a7 a8 b4 b5 b6,LeO (Bzx.l0 k a6 a7 a8 b4 b5 b6) (Bzx.l0 (k+1) a6 a7 a8 b4 b5 b6))
 | 0=>fun _ _ _ _ _ _ r h=>by simp [Bzx.l0] at h
 | k+1=>by
  have ih0:=Bzx.mono_l k
  ·intro a6 a7 a8 b4 b5 b6;unfold Bzx.l0;have i0:=@Bzf.mono;have i1:=@Dzm.mono;have i2:=@Dzb.mono;have i3:=@Czy.mono;have i4:=@Czq.mono;have i5:=@Azp.mono;exact mM
theorem Bzx.mono:∀ a6 a7 k,LeO (Bzx.f k a6 a7) (Bzx.f (k+1) a6 a7):=by
 intro a6 a7 k;have ih0:=Bzx.mono_l k;unfold Bzx.f;have i0:=@Bzf.mono;have i1:=@Dzm.mono;have i2:=@Dzb.mono;have i3:=@Czy.mono;have i4:=@Czq.mono;have i5:=@Azp.mono;exact mM
def Bzx.T2:Bool × List (List Nat × List Nat):=(true,[([],[]),([],[]),([0,1],[0,1]),([],[]),([],[]),([3,4,2],[3,4]),([],[]),([6],[6]),([5,7],[5,7]),([2,5,0,1,2],[2]),([8,9,0,1,2,3,4,5,6,7,8,9],[8])])
def Bzx.B2:List Nat:=[0,0,3,0,0,31,0,64,255,63,1023]
theorem Bzx.tab2:rtab .any (opsOf Try.f92 2)=Bzx.T2:=by kernel_rfl
theorem Bzx.bits2:waitsOk Bzx.T2.2 Bzx.B2=true:=by kernel_rfl
theorem Bzx.calls (k:Nat) (a6:Option Addr) (a7:Nat) (l0:List Int) (a8:Option Addr) (b4:Nat) (l1:List Int) (b5:List Int) (b6:List Int) (w:World) (b7:Kd.C (Kd.int .i64) w a6 l0.length l0) (b8:l0.length≤a7) (b9:Kd.C (Kd.int .i64) w a8 l1.length l1) (d0:l1.length≤b4) (h:Bzx.f k l0 l1=some (b5,b6)) :
  Calls Try.prog 92 #[.slice a6 l0.length a7,.slice a8 l1.length b4] w fun e w'=>∃ v0_ v1_:Value,e=.returned (.tuple #[v0_,v1_])∧Kd.R (Kd.int .i64) 3 w' w.heap.size (fun k_=>some k_≠(v1_:Value).ownBlock) v0_ b5∧Kd.R (Kd.int .i64) 3 w' w.heap.size (fun k_=>some k_≠(v0_:Value).ownBlock) v1_ b6∧Below w.heap.size w w':=by
 have d6:=aM b7;have d7:=aM b8;clear b7 b8;have d8:=aM b9;have d9:=aM d0;clear b9 d0;have HB:=aM (Below.refl w.heap.size w);have H:(if 0≤(wrap64 ((l1.length:Int) - 1)) then(if(wrap64 ((l1.length:Int) - 1)) < (l1.length:Int) then(if(wrap64 ((rd l1 (wrap64 ((l1.length:Int) - 1)))+1))=0 then(none) else((Czy.f k l0 (wrap64 (Int.tdiv (1000000000:Int) (wrap64 ((rd l1 (wrap64 ((l1.length:Int) - 1)))+1))))).bind fun e6=>((Czy.f k l1 (wrap64 (Int.tdiv (1000000000:Int) (wrap64 ((rd l1 (wrap64 ((l1.length:Int) - 1)))+1))))).bind fun e7=>(if 0≤(l1.length:Int) then(if(l1.length:Int)≤(e7.length:Int) then(if 0≤(wrap64 ((wrap64 ((l0.length:Int) - (l1.length:Int)))+1)) then(if(wrap64 ((wrap64 ((l0.length:Int) - (l1.length:Int)))+1):Int).toNat≤35184372088832 then((some (List.replicate (wrap64 ((wrap64 ((l0.length:Int) - (l1.length:Int)))+1):Int).toNat 0:List Int)).bind fun e8=>(Bzx.l0 k (wrap64 (Int.tdiv (1000000000:Int) (wrap64 ((rd l1 (wrap64 ((l1.length:Int) - 1)))+1)))) e6 (e7.take ((l1.length:Int):Int).toNat) (l1.length:Int) e8 (wrap64 ((e8.length:Int) - 1)))) else(none)) else(none)) else(none)) else(none))))) else(none)) else(none))=some (b5,b6):=h
 clear h;obtain⟨e9,f3⟩:∃ j_:Int,(wrap64 ((l1.length:Int) - 1))=j_:=⟨_,rfl⟩;replace H:(if 0≤(e9) then(if(e9) < (l1.length:Int) then(if(wrap64 ((rd l1 (e9))+1))=0 then(none) else((Czy.f k l0 (wrap64 (Int.tdiv (1000000000:Int) (wrap64 ((rd l1 (e9))+1))))).bind fun e6=>((Czy.f k l1 (wrap64 (Int.tdiv (1000000000:Int) (wrap64 ((rd l1 (e9))+1))))).bind fun e7=>(if 0≤(l1.length:Int) then(if(l1.length:Int)≤(e7.length:Int) then(if 0≤(wrap64 ((wrap64 ((l0.length:Int) - (l1.length:Int)))+1)) then(if(wrap64 ((wrap64 ((l0.length:Int) - (l1.length:Int)))+1):Int).toNat≤35184372088832 then((some (List.replicate (wrap64 ((wrap64 ((l0.length:Int) - (l1.length:Int)))+1):Int).toNat 0:List Int)).bind fun e8=>(Bzx.l0 k (wrap64 (Int.tdiv (1000000000:Int) (wrap64 ((rd l1 (e9))+1)))) e6 (e7.take ((l1.length:Int):Int).toNat) (l1.length:Int) e8 (wrap64 ((e8.length:Int) - 1)))) else(none)) else(none)) else(none)) else(none))))) else(none)) else(none))=some (b5,b6):=by first|(rw[f3] at H;exact H)|(simp only[f3] at H ⊢;exact H)
 have f4:(IntKind.i64.wrap ((l1.length:Int) - 1))=e9:=(i64_w _).trans f3;by_cases c4:0≤(e9)
 ·rw[if_pos c4] at H;have f6:=dE c4;clear c4;obtain⟨f9,H⟩:=iN H;obtain⟨c6,H⟩:=iM H;have g4:((wrap64 ((rd l1 (e9))+1)) == 0)=false:=beq_eq_false_iff_ne.mpr c6;have g5:((wrap64 ((rd l1 (e9))+1)) != 0)=true:=bne_iff_ne.mpr c6;obtain⟨e6,g6,H⟩:=bT H;(try dsimp only at H);obtain⟨e7,g7,H⟩:=bT H;(try dsimp only at H);obtain⟨c9,H⟩:=iO H;have g8:=eq_true c9;have g9:decide (0≤(l1.length:Int))=true:=dE c9;clear c9;obtain⟨c10,H⟩:=iO H;have j5:=eq_true c10;have j6:decide ((l1.length:Int)≤(e7.length:Int))=true:=dE c10;clear c10;obtain⟨j7,j8⟩:∃ y_:List Int,y_=(e7.take ((l1.length:Int):Int).toNat):=⟨_,rfl⟩;replace H:(if 0≤(wrap64 ((wrap64 ((l0.length:Int) - (l1.length:Int)))+1)) then(if(wrap64 ((wrap64 ((l0.length:Int) - (l1.length:Int)))+1):Int).toNat≤35184372088832 then((some (List.replicate (wrap64 ((wrap64 ((l0.length:Int) - (l1.length:Int)))+1):Int).toNat 0:List Int)).bind fun e8=>(Bzx.l0 k (wrap64 (Int.tdiv (1000000000:Int) (wrap64 ((rd l1 (e9))+1)))) e6 j7 (l1.length:Int) e8 (wrap64 ((e8.length:Int) - 1)))) else(none)) else(none))=some (b5,b6):=yE j8 H
  have j9:=aM j8;clear j8;obtain⟨l5,l6⟩:∃ j_:Int,(wrap64 ((wrap64 ((l0.length:Int) - (l1.length:Int)))+1))=j_:=⟨_,rfl⟩;replace H:(if 0≤(l5) then(if(l5:Int).toNat≤35184372088832 then((some (List.replicate (l5:Int).toNat 0:List Int)).bind fun e8=>(Bzx.l0 k (wrap64 (Int.tdiv (1000000000:Int) (wrap64 ((rd l1 (e9))+1)))) e6 j7 (l1.length:Int) e8 (wrap64 ((e8.length:Int) - 1)))) else(none)) else(none))=some (b5,b6):=by first|(rw[l6] at H;exact H)|(simp only[l6] at H ⊢;exact H)
  (try rw[l6] at g6)
  (try rw[l6] at g7)
  have l7:(IntKind.i64.wrap ((wrap64 ((l0.length:Int) - (l1.length:Int)))+1))=l5:=(i64_w _).trans l6;obtain⟨l8,H⟩:=iO H;have l9:=eq_true l8;have m0:decide (0≤(l5))=true:=dE l8;clear l8;obtain⟨m2,H⟩:=iO H;have m3:=eq_true m2;have m4:decide ((l5:Int).toNat≤35184372088832)=true:=dE m2;clear m2;obtain⟨e8,m5⟩:∃ y_:List Int,y_=(List.replicate (l5:Int).toNat 0):=⟨_,rfl⟩;replace H:(Bzx.l0 k (wrap64 (Int.tdiv (1000000000:Int) (wrap64 ((rd l1 (e9))+1)))) e6 j7 (l1.length:Int) e8 (wrap64 ((e8.length:Int) - 1)))=some (b5,b6):=yE m5 H
  have m6:=aM m5;clear m5;have H':=aM H;clear H;obtain⟨m7,m8,m9,n0,n6⟩:=aI d8.out (e9);cases m8;go_enter Try.func92,Try.ntmps92
  try go_wp2
  have n0_:=aM (below_drew1 HB.out);clear HB;have HB:=n0_;clear n0_;refine start_ (n:=11) (S:=fun w'=>True) (ds:=[]) (bA 11 0) (by kernel_rfl) rfl rfl trivial (fun hHeld=>?_);refine with_tabW Bzx.tab2 Bzx.bits2 (fun HT_ HW_=>?_)
  generalize w.drew=n7 at HB hHeld ⊢;refine pS 0 24 HT_ ?_;refine pS 1 25 HT_ ?_;refine pS 3 27 HT_ ?_;refine pS 4 28 HT_ ?_;refine pS 6 30 HT_ ?_;refine pS 7 31 HT_ ?_;refine oU 2 (some 26) HT_ fun K hK=>?_
  refine goes_ Try.func99 (by kernel_rfl) rfl #[.slice a6 l0.length a7,.int .i64 (wrap64 (Int.tdiv (1000000000:Int) (wrap64 ((rd l1 (e9))+1))))] (by rfl) rfl rfl (by(try simp only[List.map_toArray,List.map_cons,List.map_nil]);first|done|(simp only[f3];rfl)|rfl|(simp only[List.length_drop,List.length_take];rfl)) ?_
  with_reducible refine(Czy.calls k _ _ l0 (wrap64 (Int.tdiv (1000000000:Int) (wrap64 ((rd l1 (e9))+1)))) e6 _ ?side1 ?side2 g6.out).mono ?_
  (case side1=>exact cB d6)
  (case side2=>exact d7.out)
  rintro e n8 ⟨n9,rfl,o0,hb⟩;refine⟨_,rfl,?_⟩;have n0_:=rL o0;have n1_:=bB hb;clear HB;have o8:=n0_;have HB:=n1_;clear n0_ n1_;clear hb
  (try clear o9)
  (try clear hk)
  (try clear hi)
  (try clear o0)
  refine hK.out _ _ trivial (fun hHeld=>?_)
  clear hK K;refine nm 26 ?_;refine oU 5 (some 29) HT_ fun K hK=>?_
  refine goes_ Try.func99 (by kernel_rfl) rfl #[.slice (some m7) l1.length b4,.int .i64 (wrap64 (Int.tdiv (1000000000:Int) (wrap64 ((rd l1 (e9))+1))))] (by rfl) rfl rfl (by(try simp only[List.map_toArray,List.map_cons,List.map_nil]);first|done|(simp only[f3];rfl)|rfl|(simp only[List.length_drop,List.length_take];rfl)) ?_
  with_reducible refine(Czy.calls k _ _ l1 (wrap64 (Int.tdiv (1000000000:Int) (wrap64 ((rd l1 (e9))+1)))) e7 _ ?side1 ?side2 g7.out).mono ?_
  (case side1=>exact cB d8)
  (case side2=>exact d9.out)
  rintro e p0 ⟨p4,rfl,o0,hb⟩;refine⟨_,rfl,?_⟩;have n0_:=rE o8 o0 hb;have n1_:=rL (rn o0 o8);have n2_:=bB hb;clear o8;clear HB;have o8:=n0_;have p5:=n1_;have HB:=n2_;clear n0_ n1_ n2_;clear hb
  (try clear o9)
  (try clear hk)
  (try clear hi)
  (try clear o0)
  obtain⟨p9,r5,r6⟩:=Kd.R_slice p5.out;(first|subst r6|(injection r6 with f1_ f2_ f3_;have f4_:=f1_.symm;have f5_:=f3_.symm;clear f1_ f2_ f3_;subst f4_;subst f5_))
  have r7:((l1.length:Int):Int)≤((e7.length:Int):Int):=oE aS
  obtain⟨i018,r8,_,hsz18,_⟩:=info_parts info3;have hcut18:=cut_to (P:=Try.prog) 22 3 .i64 Try.underlying22 r8 p9 e7.length r5 (l1.length:Int) (oE aS) r7 (Kd.R_reads' p5.out).2.1
  have r9:=Kd.R_take (m:=((l1.length:Int):Int).toNat) p5.out (by omega)
  have t6:j7.length=((l1.length:Int):Int).toNat:=(by rw[j9.out,List.length_take];omega)
  rw[← j9.out] at r9;rw[← t6] at r9 hcut18;clear t6 r8 hsz18 p5;have t7:=aM r9;clear r9;replace r7:=eq_true r7;refine hK.out _ _ trivial (fun hHeld=>?_)
  clear hK K;refine nm 29 ?_;refine pS 8 32 HT_ ?_;refine pS 9 7 HT_ ?_;refine pS 10 8 HT_ ?_;refine done_ (done_of HT_.out (by kernel_rfl)) ?_
  try go_wp2_with (first|((with_reducible refine gate_dst (N:=40) rfl ?_);refine Kd.R_make (Kd.int .i64) _ 3 rfl (N:=40) rfl 22 _ _ rfl l5 rfl rfl Try.underlying22 (.int .i64 0) 8 info3 rfl (by decide) (by omega) 0 (ok:=fun _=>True) (okp:=fun _=>True) rfl (fun _ hk=>hk) trivial (oE aS) (Nat.le_trans (Nat.mul_le_mul_right _ (oE aS:l5.toNat≤35184372088832)) (by omega)) (Below.refl _ _) (Nat.le_refl _) ?_;intro t8 z1 z2 hb hg_ hnew_;clear hg_ hnew_;replace z2:=rY m6 z2;have z6:=rL (rn (rn z2 o8) t7);replace o8:=rE o8 z2 hb;replace t7:=rE t7 z2 hb;replace HB:=bB hb;clear hb z2;obtain⟨z7,z8,rfl⟩:=Kd.R_slice z6.out))
  go_loopg [11] k (fun kq B0 w'=>∃ (B5:List Int) (B6:List Int) (B8:List Int) (B9:Int),B0=.int .i64 B9∧Aside0 (Bzx.l0 kq (wrap64 (Int.tdiv (1000000000:Int) (wrap64 ((rd l1 (e9))+1)))) B5 B6 (l1.length:Int) B8 B9=some (b5,b6))∧Aside0 (kq≤k)∧Aside0 (Kd.R (Kd.int .i64) 3 w' w.heap.size (fun k_=>some k_≠((.slice p9 j7.length r5):Value).ownBlock∧some k_≠((.slice z7 e8.length z8):Value).ownBlock) n9 B5)∧Aside0 (Kd.R (Kd.int .i64) 3 w' w.heap.size (fun k_=>some k_≠(n9:Value).ownBlock∧some k_≠((.slice z7 e8.length z8):Value).ownBlock) (.slice p9 j7.length r5) B6)∧Aside0 (Kd.R (Kd.int .i64) 3 w' w.heap.size (fun k_=>some k_≠(n9:Value).ownBlock∧some k_≠((.slice p9 j7.length r5):Value).ownBlock) (.slice z7 e8.length z8) B8)∧Aside0 (Below w.heap.size w w'))
  case atStart=>exact⟨(e6),(j7),(e8),(wrap64 ((e8.length:Int) - 1)),sD,H',⟨Nat.le_refl _⟩,⟨by exact rX (Kd.R_mono o8.out (fun k_ hk_=>by refine⟨?_,?_⟩ <;> first|exact hk_.1.2|exact hk_.2|exact hk_.1.1|exact fun h_=>hk_.1.2 (h_.trans (own_len _ _ _ _))))⟩,⟨by exact rX (Kd.R_mono t7.out (fun _ hk=>⟨hk.1.2,hk.2⟩))⟩,⟨by exact rX (Kd.R_mono z6.out (fun _ hk=>⟨hk.1.2,hk.2⟩))⟩,⟨pB⟩⟩
  case round =>
   clear H';try clear b4
   try clear C0
   try clear q1
   try clear C1
   try clear C2
   try clear c4
   try clear f6
   try clear c5
   try clear f9
   try clear c6
   try clear g4
   try clear g5
   try clear C3
   try clear c9
   try clear g8
   try clear g9
   try clear c10
   try clear j5
   try clear j6
   try clear C4
   try clear l8
   try clear l9
   try clear m0
   try clear m2
   try clear m3
   try clear m4
   try clear C6
   try clear C7
   try clear C8
   try clear r7
   try clear m9
   try clear n0
   try clear n6
   try clear r7
   obtain⟨B5,B6,B8,B9,rfl,HA,C9,D0,D1,D2,HB⟩:=hrel;have D3:=(Kd.R_reads' D1.out).1;rw[D3] at D1;(try simp only[D3])
   (try simp only[D3] at D0)
   (try simp only[D3] at D2)
   have D4:=(Kd.R_reads' D2.out).1;rw[D4] at D2;(try simp only[D4])
   (try simp only[D4] at D0)
   (try simp only[D4] at D1)
   cases gk with
   | zero=>exact absurd HA.out (by simp [Bzx.l0])
   | succ k1 =>
    have H:=HA.out;clear HA;simp only[Bzx.l0] at H;by_cases D5:B9≥0
    ·rw[if_pos D5] at H;have D6:decide (0≤B9)=true:=dE D5;clear D5;obtain⟨D7,H⟩:=iO H;have D8:=eq_true D7;have D9:decide (0≤B9)=true:=dE D7;clear D7;obtain⟨E0,H⟩:=iO H;have E1:=eq_true E0;have E2:decide (B9≤(wrap64 ((wrap64 (B9+(l1.length:Int)))+1)))=true:=dE E0;have E3:=E2;(try simp only[D3,D4] at E3)
     have E4:decide (B9≤(IntKind.i64.wrap ((IntKind.i64.wrap (B9+(l1.length:Int)))+1)))=true:=by have h_:=E2;first|exact h_|(simp only[i64_w];exact h_)
     have E4:decide (B9≤(IntKind.i64.wrap ((IntKind.i64.wrap (B9+(l1.length:Int)))+1)))=true:=by have h_:=E2;first|exact h_|(simp only[i64_w];exact h_)
     obtain⟨E5,H⟩:=iO H;have E6:=eq_true E5;have E7:decide ((wrap64 ((wrap64 (B9+(l1.length:Int)))+1))≤(B5.length:Int))=true:=dE E5;have E8:=E7;(try simp only[D3,D4] at E8)
     have E9:decide ((IntKind.i64.wrap ((IntKind.i64.wrap (B9+(l1.length:Int)))+1))≤(B5.length:Int))=true:=by have h_:=E7;first|exact h_|(simp only[i64_w];exact h_)
     have E9:decide ((IntKind.i64.wrap ((IntKind.i64.wrap (B9+(l1.length:Int)))+1))≤(B5.length:Int))=true:=by have h_:=E7;first|exact h_|(simp only[i64_w];exact h_)
     obtain⟨F0,F1⟩:∃ y_:List Int,y_=((B5.take ((wrap64 ((wrap64 (B9+(l1.length:Int)))+1)):Int).toNat).drop (B9:Int).toNat):=⟨_,rfl⟩;replace H:((Bzf.f k1 F0 B6).bind fun F2=>((Dzm.f k1 B5 B9 (wrap64 ((wrap64 (B9+(l1.length:Int)))+1)) B6 F2).bind fun F3=>(if F3.1=true then((Dzb.f k1 F3.2 B9 (wrap64 ((wrap64 (B9+(l1.length:Int)))+1)) B6).bind fun F4=>(if B9 < (B8.length:Int) then(Bzx.l0 k1 (wrap64 (Int.tdiv (1000000000:Int) (wrap64 ((rd l1 (e9))+1)))) F4 B6 (l1.length:Int) (B8.set (B9:Int).toNat (wrap64 (F2 - 1))) (wrap64 (B9 - 1))) else(none))) else(if B9 < (B8.length:Int) then(Bzx.l0 k1 (wrap64 (Int.tdiv (1000000000:Int) (wrap64 ((rd l1 (e9))+1)))) F3.2 B6 (l1.length:Int) (B8.set (B9:Int).toNat F2) (wrap64 (B9 - 1))) else(none)))))=some (b5,b6):=yE F1 H
     have F5:=aM F1;clear F1;obtain⟨F2,F6,H⟩:=bT H;(try dsimp only at H);obtain⟨⟨F7,F8⟩,F9,H⟩:=bT H;(try dsimp only at H);by_cases G0:F7=true
     ·subst G0;rw[if_pos rfl] at H;obtain⟨F4,G4,H⟩:=bT H;(try dsimp only at H);obtain⟨G5,H⟩:=iO H;have G6:decide (B9 < (B8.length:Int))=true:=dE G5;have G7:=G6;(try simp only[D3,D4] at G7)
      clear G5;obtain⟨G8,G9⟩:∃ y_:List Int,y_=(B8.set (B9:Int).toNat (wrap64 (F2 - 1))):=⟨_,rfl⟩;replace H:(Bzx.l0 k1 (wrap64 (Int.tdiv (1000000000:Int) (wrap64 ((rd l1 (e9))+1)))) F4 B6 (l1.length:Int) G8 (wrap64 (B9 - 1)))=some (b5,b6):=yE G9 H
      have H5:=aM G9;clear G9;have H':=aM H;clear H;obtain⟨H6,H7,rfl⟩:=Kd.R_slice D0.out;have H8:((wrap64 ((wrap64 (B9+(l1.length:Int)))+1)):Int)≤((B5.length:Int):Int):=oE aS
      obtain⟨i032,H9,_,hsz32,_⟩:=info_parts info3;have hroom32:B5.length≤H7:=(Kd.R_reads' D0.out).2.1;have hC32:Kd.C (Kd.int .i64) _ H6 B5.length B5:=(Kd.R_reads' D0.out).2.2;have ql32:(B9:Int)≤((wrap64 ((wrap64 (B9+(l1.length:Int)))+1)):Int):=oE aS
      have I0:(0:Int)≤(B9:Int):=oE aS
      have hcut32:=cut_mid (P:=Try.prog) 22 3 .i64 .i64 Try.underlying22 H9 1 hsz32 H6 B5.length H7 B9 (wrap64 ((wrap64 (B9+(l1.length:Int)))+1)) I0 ql32 H8 hroom32;have I1:=Kd.C_mid (lo:=(B9:Int).toNat) (hi:=((wrap64 ((wrap64 (B9+(l1.length:Int)))+1)):Int).toNat) (c:=H7) hC32 (by omega) (by omega) hroom32
      obtain⟨I2,I3⟩:∃ a8,a8=(if H7=(B9:Int).toNat then H6 else(H6:Option Addr).map (·.add ((B9:Int).toNat * 1))):=⟨_,rfl⟩
      obtain⟨I4,I5⟩:∃ b4,b4=H7 - (B9:Int).toNat:=⟨_,rfl⟩;have I6:F0.length=((wrap64 ((wrap64 (B9+(l1.length:Int)))+1)):Int).toNat - (B9:Int).toNat:=(by rw[F5.out,List.length_drop,List.length_take] <;> omega)
      rw[show((B5).take ((wrap64 ((wrap64 (B9+(l1.length:Int)))+1)):Int).toNat).drop (B9:Int).toNat=F0 from F5.out.symm] at I1
      replace I1:Kd.C (Kd.int .i64) _ I2 F0.length F0:=(by rw[I3];exact I1)
      rw[← I6,← I3,← I5] at hcut32;have I7:=aM I1;have I8:=aM (show F0.length≤I4 from by rw[I6,I5];exact Nat.sub_le_sub_right (Nat.le_trans (by omega) hroom32) _)
      clear I1 hC32 hroom32 H9 hsz32 I5;have KY32:=aM I6;have KA32:=aM I3;clear I6 I3;have KL32:=aM (show((wrap64 ((wrap64 (B9+(l1.length:Int)))+1)):Int).toNat≤B5.length from by omega)
      have KM32:=aM (show(B9:Int).toNat≤((wrap64 ((wrap64 (B9+(l1.length:Int)))+1)):Int).toNat from by omega)
      replace H8:=eq_true H8;go_wp2_with (first|((with_reducible refine gc 100 rfl ?_);refine gC 100 (some 57) Try.func100 #[.slice I2 F0.length I4,.slice p9 B6.length r5] ?_;(with_reducible refine(Bzf.calls k1 _ _ F0 _ _ B6 F2 _ ?_ ?_ ?_ ?_ F6.out).mono ?_);(focus(repeat(first|exact(by repeat(first|(with_reducible exact I7.out)|(with_reducible refine Kd.C_alloc ?_ _)|(with_reducible refine Kd.C_drewN ?_ _)|(with_reducible refine Kd.C_drew ?_)|exact I7.out))|(with_reducible refine Kd.C_alloc ?_ _)|(with_reducible refine Kd.C_drewN ?_ _)|(with_reducible refine Kd.C_drew ?_))));exact I8.out;exact cR D1;exact lR D1;rintro e w' ⟨rfl,⟨nd,rfl⟩⟩;refine⟨_,rfl,?_⟩;(try(rw[drewN_self wr];generalize hq_:World.drewN wr _=wr;have n0_:Aside0 (Kd.R (Kd.int .i64) 3 wr w.heap.size (fun k_=>some k_≠(.slice H6 B5.length H7:Value).ownBlock∧some k_≠(.slice p9 B6.length r5:Value).ownBlock) (.slice z7 B8.length z8) B8):=⟨by rw[← hq_];exact(rX D2.out)⟩;have n1_:Aside0 (Kd.R (Kd.int .i64) 3 wr w.heap.size (fun k_=>some k_≠(.slice z7 B8.length z8:Value).ownBlock∧some k_≠(.slice p9 B6.length r5:Value).ownBlock) (.slice H6 B5.length H7) B5):=⟨by rw[← hq_];exact(rX (Kd.R_mono D0.out (fun _ hk=>⟨hk.2,hk.1⟩)))⟩;have n2_:Aside0 (Kd.R (Kd.int .i64) 3 wr w.heap.size (fun k_=>some k_≠(.slice z7 B8.length z8:Value).ownBlock∧some k_≠(.slice H6 B5.length H7:Value).ownBlock) (.slice p9 B6.length r5) B6):=⟨by rw[← hq_];exact(rX (Kd.R_mono D1.out (fun _ hk=>⟨hk.2,hk.1⟩)))⟩;have n3_:Aside0 (Below w.heap.size w wr):=⟨by rw[← hq_];exact pB⟩;have n4_:Aside0 (Kd.C (Kd.int .i64) wr I2 F0.length F0):=⟨by rw[← hq_];exact(by repeat(first|(with_reducible exact I7.out)|(with_reducible refine Kd.C_alloc ?_ _)|(with_reducible refine Kd.C_drewN ?_ _)|(with_reducible refine Kd.C_drew ?_)|exact I7.out))⟩;clear D2 D0 D1 HB I7 hq_;have D2:=n0_;have D0:=n1_;have D1:=n2_;have HB:=n3_;have I7:=n4_;clear n0_ n1_ n2_ n3_ n4_)))|((with_reducible refine gc 101 rfl ?_);refine gC 101 (some 61) Try.func101 #[.slice I2 F0.length I4,.slice p9 B6.length r5,.int .i64 F2] ?_;(with_reducible refine(Dzm.calls k1 (fun k_=>some k_=(.slice H6 B5.length H7:Value).ownBlock) H6 H7 B5.length B5 B9 (wrap64 ((wrap64 (B9+(l1.length:Int)))+1)) I2 I4 F0.length KA32.out KY32.out _ _ B6 F2 true F8 w _ ?side1 ?side2 ?side3 ?side4 F9.out).mono ?_);(case side1=>exact pB);(case side2=>exact Kd.R_tight rfl D0.out);(case side3=>exact Kd.C_kept_own (D1.out) (fun k_ hk_ hs_=>by first|exact hk_.1 hs_|exact hk_.2 hs_));(case side4=>exact lR D1);rintro e I9 ⟨rfl,J0,hb,hkp⟩;refine⟨_,rfl,?_⟩;replace D0:=aM (Kd.R_reok rfl J0 (fun k_ e_=>D0.out.1 k_ e_));replace D1:=aM (Kd.R_mono (ok':=fun k_=>some k_≠(.slice H6 B5.length H7:Value).ownBlock∧some k_≠(.slice z7 B8.length z8:Value).ownBlock) (Kd.R_keptB (D1.out) hkp (fun k_ hk_ hs_=>by first|exact hk_.1 hs_|exact hk_.2 hs_)) (fun k_ hk_=>by first|exact⟨hk_.1.1,hk_.1.2⟩|exact⟨hk_.1.2,hk_.1.1⟩));replace D2:=aM (Kd.R_mono (ok':=fun k_=>some k_≠(.slice H6 B5.length H7:Value).ownBlock∧some k_≠(.slice p9 B6.length r5:Value).ownBlock) (Kd.R_keptB (D2.out) hkp (fun k_ hk_ hs_=>by first|exact hk_.1 hs_|exact hk_.2 hs_)) (fun k_ hk_=>by first|exact⟨hk_.1.1,hk_.1.2⟩|exact⟨hk_.1.2,hk_.1.1⟩));replace HB:=aM (hb);clear hb hkp J0)|((with_reducible refine gc 102 rfl ?_);refine gC 102 (some 66) Try.func102 #[.slice I2 F0.length I4,.slice p9 B6.length r5] ?_;(with_reducible refine(Dzb.calls k1 (fun k_=>some k_=(.slice H6 B5.length H7:Value).ownBlock) H6 H7 B5.length F8 B9 (wrap64 ((wrap64 (B9+(l1.length:Int)))+1)) I2 I4 F0.length KA32.out KY32.out _ _ B6 F4 w _ ?side1 ?side2 ?side3 ?side4 G4.out).mono ?_);(case side1=>exact pB);(case side2=>exact Kd.R_tight rfl D0.out);(case side3=>exact Kd.C_kept_own (D1.out) (fun k_ hk_ hs_=>by first|exact hk_.1 hs_|exact hk_.2 hs_));(case side4=>exact lR D1);rintro e J1 ⟨rfl,J0,hb,hkp⟩;refine⟨_,rfl,?_⟩;replace D0:=aM (Kd.R_reok rfl J0 (fun k_ e_=>D0.out.1 k_ e_));replace D1:=aM (Kd.R_mono (ok':=fun k_=>some k_≠(.slice H6 B5.length H7:Value).ownBlock∧some k_≠(.slice z7 B8.length z8:Value).ownBlock) (Kd.R_keptB (D1.out) hkp (fun k_ hk_ hs_=>by first|exact hk_.1 hs_|exact hk_.2 hs_)) (fun k_ hk_=>by first|exact⟨hk_.1.1,hk_.1.2⟩|exact⟨hk_.1.2,hk_.1.1⟩));replace D2:=aM (Kd.R_mono (ok':=fun k_=>some k_≠(.slice H6 B5.length H7:Value).ownBlock∧some k_≠(.slice p9 B6.length r5:Value).ownBlock) (Kd.R_keptB (D2.out) hkp (fun k_ hk_ hs_=>by first|exact hk_.1 hs_|exact hk_.2 hs_)) (fun k_ hk_=>by first|exact⟨hk_.1.1,hk_.1.2⟩|exact⟨hk_.1.2,hk_.1.1⟩));replace HB:=aM (hb);clear hb hkp J0;have J2:0≤(B9:Int):=oE aS;have J3:(B9:Int) < ((B8.length:Int):Int):=oE aS;obtain⟨J4,J5,J6,J7,J8,J9,K0⟩:=Kd.R_form D2.out (by omega);(first|cases J6|(injection J6 with ea_ en_ ec_;(first|subst ea_|(injection ea_ with ea_;subst ea_));subst ec_;clear en_));have K1:=aM J7;have K2:=aM K0;clear J7 J8 K0;obtain⟨K3,K4⟩:=Kd.R_celln 0 D2.out (B9:Int) J2 J3;replace J2:=eq_true J2;replace J3:=eq_true J3;obtain⟨K5,hz36_⟩:=Kd.R_celln 0 D2.out (B9:Int) (oE aS) (oE aS);have K6:=Kd.R_putg D2.out (B9:Int) (wrap64 (F2 - 1)))|((with_reducible refine gate_store (t:=3) (p:=70) rfl ?_);refine store_event (t:=3) (p:=70) (v:=?vo_w37) (w1:=(J1.setCell ⟨J4,(B9:Int).toNat,none⟩ (.int .i64 (wrap64 (F2 - 1))))) ?hg ?ho ?hn ?hr ?_;(case ho=>rfl);(case hg=>rfl);(case hn=>rfl);(case hr=>first|(go_simp;done)|(go_simp;rfl));intro K7 hw;have hg:J1.grownBy K7 (some J4):=(by rw[hw];exact K6.2);have hp_:Kd.R (Kd.int .i64) 3 K7 w.heap.size (fun k_=>some k_≠(.slice H6 B5.length H7:Value).ownBlock∧some k_≠(.slice p9 B6.length r5:Value).ownBlock) (.slice (some ⟨J4,0,none⟩) B8.length z8) G8:=(by rw[hw,H5.out];exact K6.1);clear K6;replace D0:=aM (Kd.R_after (v:=(.slice (some ⟨J4,0,none⟩) B8.length z8)) (v1:=(.slice (some ⟨J4,0,none⟩) B8.length z8)) (ok:=(fun k_=>some k_≠(.slice p9 B6.length r5:Value).ownBlock)) (by first|exact rX D0.out|exact rX (Kd.R_mono D0.out (fun _ hk=>⟨hk.2,hk.1⟩))) hg (.inl rfl));replace D1:=aM (Kd.R_after (v:=(.slice (some ⟨J4,0,none⟩) B8.length z8)) (v1:=(.slice (some ⟨J4,0,none⟩) B8.length z8)) (ok:=(fun k_=>some k_≠(.slice H6 B5.length H7:Value).ownBlock)) (by first|exact rX D1.out|exact rX (Kd.R_mono D1.out (fun _ hk=>⟨hk.2,hk.1⟩))) hg (.inl rfl));replace D2:=aM (hp_);replace HB:=aM ((by rw[hw];exact below_set (HB.out) K1.out:Below w.heap.size w K7));clear hg hw hp_))
      (try simp only[← D3,← D4])
      go_roundg k1
      case measure=>have:=C9.out;omega
      case rel=>exact⟨(F4),(B6),(G8),(wrap64 (B9 - 1)),sD,H',⟨by have:=C9.out;omega⟩,⟨by(try simp only[D3]);(try simp only[D4]);(with_reducible repeat(first|apply Kd.R_alloc|apply Kd.R_drewN|apply Kd.R_drew));exact D0.out⟩,⟨by(try simp only[D3]);(try simp only[D4]);(with_reducible repeat(first|apply Kd.R_alloc|apply Kd.R_drewN|apply Kd.R_drew));exact D1.out⟩,⟨by(try simp only[D3]);(try simp only[D4]);(with_reducible repeat(first|apply Kd.R_alloc|apply Kd.R_drewN|apply Kd.R_drew));exact D2.out⟩,⟨pB⟩⟩
     ·obtain rfl:=bN G0;rw[if_neg nF] at H
      obtain⟨K8,H⟩:=iO H;have K9:decide (B9 < (B8.length:Int))=true:=dE K8;have L0:=K9;(try simp only[D3,D4] at L0)
      clear K8;obtain⟨L5,L6⟩:∃ y_:List Int,y_=(B8.set (B9:Int).toNat F2):=⟨_,rfl⟩;replace H:(Bzx.l0 k1 (wrap64 (Int.tdiv (1000000000:Int) (wrap64 ((rd l1 (e9))+1)))) F8 B6 (l1.length:Int) L5 (wrap64 (B9 - 1)))=some (b5,b6):=yE L6 H
      have L7:=aM L6;clear L6;have H':=aM H;clear H;obtain⟨L8,L9,rfl⟩:=Kd.R_slice D0.out;have M0:((wrap64 ((wrap64 (B9+(l1.length:Int)))+1)):Int)≤((B5.length:Int):Int):=oE aS
      obtain⟨i040,M1,_,hsz40,_⟩:=info_parts info3;have hroom40:B5.length≤L9:=(Kd.R_reads' D0.out).2.1;have hC40:Kd.C (Kd.int .i64) _ L8 B5.length B5:=(Kd.R_reads' D0.out).2.2;have ql40:(B9:Int)≤((wrap64 ((wrap64 (B9+(l1.length:Int)))+1)):Int):=oE aS
      have M2:(0:Int)≤(B9:Int):=oE aS
      have hcut40:=cut_mid (P:=Try.prog) 22 3 .i64 .i64 Try.underlying22 M1 1 hsz40 L8 B5.length L9 B9 (wrap64 ((wrap64 (B9+(l1.length:Int)))+1)) M2 ql40 M0 hroom40;have M3:=Kd.C_mid (lo:=(B9:Int).toNat) (hi:=((wrap64 ((wrap64 (B9+(l1.length:Int)))+1)):Int).toNat) (c:=L9) hC40 (by omega) (by omega) hroom40
      obtain⟨M4,M5⟩:∃ a8,a8=(if L9=(B9:Int).toNat then L8 else(L8:Option Addr).map (·.add ((B9:Int).toNat * 1))):=⟨_,rfl⟩
      obtain⟨M6,M7⟩:∃ b4,b4=L9 - (B9:Int).toNat:=⟨_,rfl⟩;have M8:F0.length=((wrap64 ((wrap64 (B9+(l1.length:Int)))+1)):Int).toNat - (B9:Int).toNat:=(by rw[F5.out,List.length_drop,List.length_take] <;> omega)
      rw[show((B5).take ((wrap64 ((wrap64 (B9+(l1.length:Int)))+1)):Int).toNat).drop (B9:Int).toNat=F0 from F5.out.symm] at M3
      replace M3:Kd.C (Kd.int .i64) _ M4 F0.length F0:=(by rw[M5];exact M3)
      rw[← M8,← M5,← M7] at hcut40;have I7:=aM M3;have I8:=aM (show F0.length≤M6 from by rw[M8,M7];exact Nat.sub_le_sub_right (Nat.le_trans (by omega) hroom40) _)
      clear M3 hC40 hroom40 M1 hsz40 M7;have KY40:=aM M8;have KA40:=aM M5;clear M8 M5;have KL40:=aM (show((wrap64 ((wrap64 (B9+(l1.length:Int)))+1)):Int).toNat≤B5.length from by omega)
      have KM40:=aM (show(B9:Int).toNat≤((wrap64 ((wrap64 (B9+(l1.length:Int)))+1)):Int).toNat from by omega)
      replace M0:=eq_true M0;go_wp2_with (first|((with_reducible refine gc 100 rfl ?_);refine gC 100 (some 57) Try.func100 #[.slice M4 F0.length M6,.slice p9 B6.length r5] ?_;(with_reducible refine(Bzf.calls k1 _ _ F0 _ _ B6 F2 _ ?_ ?_ ?_ ?_ F6.out).mono ?_);(focus(repeat(first|exact(by repeat(first|(with_reducible exact I7.out)|(with_reducible refine Kd.C_alloc ?_ _)|(with_reducible refine Kd.C_drewN ?_ _)|(with_reducible refine Kd.C_drew ?_)|exact I7.out))|(with_reducible refine Kd.C_alloc ?_ _)|(with_reducible refine Kd.C_drewN ?_ _)|(with_reducible refine Kd.C_drew ?_))));exact I8.out;exact cR D1;exact lR D1;rintro e w' ⟨rfl,⟨nd,rfl⟩⟩;refine⟨_,rfl,?_⟩;(try(rw[drewN_self wr];generalize hq_:World.drewN wr _=wr;have n0_:Aside0 (Kd.R (Kd.int .i64) 3 wr w.heap.size (fun k_=>some k_≠(.slice L8 B5.length L9:Value).ownBlock∧some k_≠(.slice p9 B6.length r5:Value).ownBlock) (.slice z7 B8.length z8) B8):=⟨by rw[← hq_];exact(rX D2.out)⟩;have n1_:Aside0 (Kd.R (Kd.int .i64) 3 wr w.heap.size (fun k_=>some k_≠(.slice z7 B8.length z8:Value).ownBlock∧some k_≠(.slice p9 B6.length r5:Value).ownBlock) (.slice L8 B5.length L9) B5):=⟨by rw[← hq_];exact(rX (Kd.R_mono D0.out (fun _ hk=>⟨hk.2,hk.1⟩)))⟩;have n2_:Aside0 (Kd.R (Kd.int .i64) 3 wr w.heap.size (fun k_=>some k_≠(.slice z7 B8.length z8:Value).ownBlock∧some k_≠(.slice L8 B5.length L9:Value).ownBlock) (.slice p9 B6.length r5) B6):=⟨by rw[← hq_];exact(rX (Kd.R_mono D1.out (fun _ hk=>⟨hk.2,hk.1⟩)))⟩;have n3_:Aside0 (Below w.heap.size w wr):=⟨by rw[← hq_];exact pB⟩;have n4_:Aside0 (Kd.C (Kd.int .i64) wr M4 F0.length F0):=⟨by rw[← hq_];exact(by repeat(first|(with_reducible exact I7.out)|(with_reducible refine Kd.C_alloc ?_ _)|(with_reducible refine Kd.C_drewN ?_ _)|(with_reducible refine Kd.C_drew ?_)|exact I7.out))⟩;clear D2 D0 D1 HB I7 hq_;have D2:=n0_;have D0:=n1_;have D1:=n2_;have HB:=n3_;have I7:=n4_;clear n0_ n1_ n2_ n3_ n4_)))|((with_reducible refine gc 101 rfl ?_);refine gC 101 (some 61) Try.func101 #[.slice M4 F0.length M6,.slice p9 B6.length r5,.int .i64 F2] ?_;(with_reducible refine(Dzm.calls k1 (fun k_=>some k_=(.slice L8 B5.length L9:Value).ownBlock) L8 L9 B5.length B5 B9 (wrap64 ((wrap64 (B9+(l1.length:Int)))+1)) M4 M6 F0.length KA40.out KY40.out _ _ B6 F2 false F8 w _ ?side1 ?side2 ?side3 ?side4 F9.out).mono ?_);(case side1=>exact pB);(case side2=>exact Kd.R_tight rfl D0.out);(case side3=>exact Kd.C_kept_own (D1.out) (fun k_ hk_ hs_=>by first|exact hk_.1 hs_|exact hk_.2 hs_));(case side4=>exact lR D1);rintro e M9 ⟨rfl,J0,hb,hkp⟩;refine⟨_,rfl,?_⟩;replace D0:=aM (Kd.R_reok rfl J0 (fun k_ e_=>D0.out.1 k_ e_));replace D1:=aM (Kd.R_mono (ok':=fun k_=>some k_≠(.slice L8 B5.length L9:Value).ownBlock∧some k_≠(.slice z7 B8.length z8:Value).ownBlock) (Kd.R_keptB (D1.out) hkp (fun k_ hk_ hs_=>by first|exact hk_.1 hs_|exact hk_.2 hs_)) (fun k_ hk_=>by first|exact⟨hk_.1.1,hk_.1.2⟩|exact⟨hk_.1.2,hk_.1.1⟩));replace D2:=aM (Kd.R_mono (ok':=fun k_=>some k_≠(.slice L8 B5.length L9:Value).ownBlock∧some k_≠(.slice p9 B6.length r5:Value).ownBlock) (Kd.R_keptB (D2.out) hkp (fun k_ hk_ hs_=>by first|exact hk_.1 hs_|exact hk_.2 hs_)) (fun k_ hk_=>by first|exact⟨hk_.1.1,hk_.1.2⟩|exact⟨hk_.1.2,hk_.1.1⟩));replace HB:=aM (hb);clear hb hkp J0;have N0:0≤(B9:Int):=oE aS;have N1:(B9:Int) < ((B8.length:Int):Int):=oE aS;obtain⟨N2,N3,N4,N5,N6,N7,N8⟩:=Kd.R_form D2.out (by omega);(first|cases N4|(injection N4 with ea_ en_ ec_;(first|subst ea_|(injection ea_ with ea_;subst ea_));subst ec_;clear en_));have N9:=aM N5;have O0:=aM N8;clear N5 N6 N8;obtain⟨O1,O2⟩:=Kd.R_celln 0 D2.out (B9:Int) N0 N1;replace N0:=eq_true N0;replace N1:=eq_true N1;obtain⟨O3,hz43_⟩:=Kd.R_celln 0 D2.out (B9:Int) (oE aS) (oE aS);have O4:=Kd.R_putg D2.out (B9:Int) F2)|((with_reducible refine gate_store (t:=3) (p:=70) rfl ?_);refine store_event (t:=3) (p:=70) (v:=?vo_w44) (w1:=(M9.setCell ⟨N2,(B9:Int).toNat,none⟩ (.int .i64 F2))) ?hg ?ho ?hn ?hr ?_;(case ho=>rfl);(case hg=>rfl);(case hn=>rfl);(case hr=>first|(go_simp;done)|(go_simp;rfl));intro O5 hw;have hg:M9.grownBy O5 (some N2):=(by rw[hw];exact O4.2);have hp_:Kd.R (Kd.int .i64) 3 O5 w.heap.size (fun k_=>some k_≠(.slice L8 B5.length L9:Value).ownBlock∧some k_≠(.slice p9 B6.length r5:Value).ownBlock) (.slice (some ⟨N2,0,none⟩) B8.length z8) L5:=(by rw[hw,L7.out];exact O4.1);clear O4;replace D0:=aM (Kd.R_after (v:=(.slice (some ⟨N2,0,none⟩) B8.length z8)) (v1:=(.slice (some ⟨N2,0,none⟩) B8.length z8)) (ok:=(fun k_=>some k_≠(.slice p9 B6.length r5:Value).ownBlock)) (by first|exact rX D0.out|exact rX (Kd.R_mono D0.out (fun _ hk=>⟨hk.2,hk.1⟩))) hg (.inl rfl));replace D1:=aM (Kd.R_after (v:=(.slice (some ⟨N2,0,none⟩) B8.length z8)) (v1:=(.slice (some ⟨N2,0,none⟩) B8.length z8)) (ok:=(fun k_=>some k_≠(.slice L8 B5.length L9:Value).ownBlock)) (by first|exact rX D1.out|exact rX (Kd.R_mono D1.out (fun _ hk=>⟨hk.2,hk.1⟩))) hg (.inl rfl));replace D2:=aM (hp_);replace HB:=aM ((by rw[hw];exact below_set (HB.out) N9.out:Below w.heap.size w O5));clear hg hw hp_))
      (try simp only[← D3,← D4])
      go_roundg k1
      case measure=>have:=C9.out;omega
      case rel=>exact⟨(F8),(B6),(L5),(wrap64 (B9 - 1)),sD,H',⟨by have:=C9.out;omega⟩,⟨by(try simp only[D3]);(try simp only[D4]);(with_reducible repeat(first|apply Kd.R_alloc|apply Kd.R_drewN|apply Kd.R_drew));exact D0.out⟩,⟨by(try simp only[D3]);(try simp only[D4]);(with_reducible repeat(first|apply Kd.R_alloc|apply Kd.R_drewN|apply Kd.R_drew));exact D1.out⟩,⟨by(try simp only[D3]);(try simp only[D4]);(with_reducible repeat(first|apply Kd.R_alloc|apply Kd.R_drewN|apply Kd.R_drew));exact D2.out⟩,⟨pB⟩⟩
    ·rw[if_neg D5] at H;have D6:decide (0≤B9)=false:=decide_eq_false D5;clear D5;obtain⟨O6,H⟩:=iO H;have O7:=eq_true O6;have O8:decide (0≤(l1.length:Int))=true:=dE O6;have O9:=O8;(try simp only[D3,D4] at O9)
     clear O6;obtain⟨P2,H⟩:=iO H;have P3:=eq_true P2;have P4:decide ((l1.length:Int)≤(B5.length:Int))=true:=dE P2;have P5:=P4;(try simp only[D3,D4] at P5)
     clear P2;obtain⟨P6,P7⟩:∃ y_:List Int,y_=(B5.take ((l1.length:Int):Int).toNat):=⟨_,rfl⟩;replace H:((Azp.f k1 P6).bind fun P8=>((Czq.f k1 P8 (wrap64 (Int.tdiv (1000000000:Int) (wrap64 ((rd l1 (e9))+1))))).bind fun P9=>((Azp.f k1 B8).bind fun Q0=>(some (Q0,P9.1)))))=some (b5,b6):=yE P7 H
     have Q1:=aM P7;clear P7;obtain⟨P8,Q2,H⟩:=bT H;(try dsimp only at H);obtain⟨⟨Q3,Q4⟩,Q5,H⟩:=bT H;(try dsimp only at H);replace H:=bS H;obtain⟨Q0,Q6,H⟩:=H;replace H:(some (Q0,Q3))=some (b5,b6):=H;have Q7:=aM Q6;clear Q6;obtain⟨rfl,rfl⟩:=q2 H;obtain⟨Q8,Q9,rfl⟩:=Kd.R_slice D0.out;have R0:((l1.length:Int):Int)≤((B5.length:Int):Int):=oE aS
     obtain⟨i051,R1,_,hsz51,_⟩:=info_parts info3;have hcut51:=cut_to (P:=Try.prog) 22 3 .i64 Try.underlying22 R1 Q8 B5.length Q9 (l1.length:Int) (oE aS) R0 (Kd.R_reads' D0.out).2.1
     have R2:=Kd.R_take (m:=((l1.length:Int):Int).toNat) D0.out (by omega)
     have R3:P6.length=((l1.length:Int):Int).toNat:=(by rw[Q1.out,List.length_take];omega)
     rw[← Q1.out] at R2;rw[← R3] at R2 hcut51;clear R3 R1 hsz51 D0;have R4:=aM R2;replace D1:=aM (Kd.R_mono D1.out (ok':=fun k_=>some k_≠(.slice Q8 P6.length Q9:Value).ownBlock∧some k_≠(.slice z7 B8.length z8:Value).ownBlock) (fun k_ hk_=>by refine⟨?_,?_⟩ <;> first|exact hk_.2|exact hk_.1|exact fun h_=>hk_.1 (h_.trans (own_len _ _ _ _))|exact fun h_=>hk_.2 (h_.trans (own_len _ _ _ _))))
     replace D2:=aM (Kd.R_mono D2.out (ok':=fun k_=>some k_≠(.slice Q8 P6.length Q9:Value).ownBlock∧some k_≠(.slice p9 B6.length r5:Value).ownBlock) (fun k_ hk_=>by refine⟨?_,?_⟩ <;> first|exact hk_.2|exact hk_.1|exact fun h_=>hk_.1 (h_.trans (own_len _ _ _ _))|exact fun h_=>hk_.2 (h_.trans (own_len _ _ _ _))))
     clear R2;replace R0:=eq_true R0;go_wp2_with (first|((with_reducible refine gc 72 rfl ?_);refine gC 72 (some 75) Try.func72 #[.slice Q8 P6.length Q9] ?_;(with_reducible refine(Azp.calls k1 (fun k_=>some k_=(.slice Q8 P6.length Q9:Value).ownBlock) (.slice Q8 P6.length Q9) P6 P8 w _ ?_ ?_ Q2.out).mono ?_);exact pB;exact Kd.R_tight rfl R4.out;rintro e R5 ⟨R6,rfl,o0,hb,hkp⟩;refine⟨_,rfl,?_⟩;have R7:=aM (Kd.R_mono (ok':=fun k_=>some k_≠(.slice p9 B6.length r5:Value).ownBlock∧some k_≠(.slice z7 B8.length z8:Value).ownBlock) o0 (fun k_ hk_=>⟨Or.elim hk_ (fun hs_=>fun e_=>(((D1.out).1 k_ e_.symm).1) hs_) (fun hn_=>(Kd.fresh' (Kd.R_lt (rX D1.out)) k_ hn_)),Or.elim hk_ (fun hs_=>fun e_=>(((D2.out).1 k_ e_.symm).1) hs_) (fun hn_=>(Kd.fresh' (Kd.R_lt (rX D2.out)) k_ hn_))⟩));replace D1:=aM (Kd.R_mono (ok':=fun k_=>some k_≠(.slice z7 B8.length z8:Value).ownBlock∧some k_≠(R6:Value).ownBlock) (Kd.R_keptB (D1.out) hkp (fun k_ hk_ hs_=>by first|exact hk_.1 hs_|exact hk_.2 hs_)) (fun k_ hk_=>⟨hk_.1.2,fun e_=>Or.elim (o0.1 k_ e_.symm) (fun hs_=>hk_.2.1 hs_) (fun hn_=>Nat.not_le.2 hk_.2.2 hn_)⟩));replace D2:=aM (Kd.R_mono (ok':=fun k_=>some k_≠(.slice p9 B6.length r5:Value).ownBlock∧some k_≠(R6:Value).ownBlock) (Kd.R_keptB (D2.out) hkp (fun k_ hk_ hs_=>by first|exact hk_.1 hs_|exact hk_.2 hs_)) (fun k_ hk_=>⟨hk_.1.2,fun e_=>Or.elim (o0.1 k_ e_.symm) (fun hs_=>hk_.2.1 hs_) (fun hn_=>Nat.not_le.2 hk_.2.2 hn_)⟩));replace HB:=aM (hb);clear R4;clear hb hkp o0;obtain⟨R8,R9,rfl⟩:=Kd.R_slice R7.out)|((with_reducible refine gate_callee (f:=91) rfl ?_);refine goesL_ (some 77) rfl rfl Try.func91 (by kernel_rfl) rfl #[.slice R8 P8.length R9,.int .i64 (wrap64 (Int.tdiv (1000000000:Int) (wrap64 ((rd l1 (e9))+1))))] rfl (by(try simp only[List.map_toArray,List.map_cons,List.map_nil]);first|done|(simp only[f3];rfl)|rfl|(simp only[List.length_drop,List.length_take];rfl)) ?_;(with_reducible refine(Czq.calls k1 _ _ P8 (wrap64 (Int.tdiv (1000000000:Int) (wrap64 ((rd l1 (e9))+1)))) Q3 Q4 _ ?side1 ?side2 Q5.out).mono ?_);(case side1=>exact cR R7);(case side2=>exact lR R7);rintro e U0 ⟨U1,U2,rfl,o0,U3,hb⟩;refine⟨_,rfl,?_⟩;have U4:=rL (rn (rn (rn o0 D1) D2) R7);have U5:=rL (rn (rn (rn U3 D1) D2) R7);replace D1:=rO D1 hb o0 U3;replace D2:=rO D2 hb o0 U3;replace R7:=rO R7 hb o0 U3;replace HB:=bB hb;clear hb o0 U3)|((with_reducible refine gc 72 rfl ?_);refine gC 72 (some 81) Try.func72 #[.slice z7 B8.length z8] ?_;(with_reducible refine(Azp.calls k1 (fun k_=>some k_=(.slice z7 B8.length z8:Value).ownBlock) (.slice z7 B8.length z8) B8 Q0 w _ ?_ ?_ Q7.out).mono ?_);exact pB;exact Kd.R_tight rfl D2.out;rintro e U6 ⟨U7,rfl,o0,hb,hkp⟩;refine⟨_,rfl,?_⟩;have U8:=aM (Kd.R_mono (ok':=fun k_=>some k_≠(.slice p9 B6.length r5:Value).ownBlock∧some k_≠(.slice R8 P8.length R9:Value).ownBlock∧some k_≠(U1:Value).ownBlock∧some k_≠(U2:Value).ownBlock) o0 (fun k_ hk_=>⟨Or.elim hk_ (fun hs_=>fun e_=>(((D1.out).1 k_ e_.symm).1.1.1) hs_) (fun hn_=>(Kd.fresh' (Kd.R_lt (rX D1.out)) k_ hn_)),Or.elim hk_ (fun hs_=>fun e_=>(((R7.out).1 k_ e_.symm).1.1.2) hs_) (fun hn_=>(Kd.fresh' (Kd.R_lt (rX R7.out)) k_ hn_)),Or.elim hk_ (fun hs_=>fun e_=>(((U4.out).1 k_ e_.symm).1.2) hs_) (fun hn_=>(Kd.fresh' (Kd.R_lt (rX U4.out)) k_ hn_)),Or.elim hk_ (fun hs_=>fun e_=>(((U5.out).1 k_ e_.symm).1.2) hs_) (fun hn_=>(Kd.fresh' (Kd.R_lt (rX U5.out)) k_ hn_))⟩));replace D1:=aM (Kd.R_mono (ok':=fun k_=>some k_≠(.slice R8 P8.length R9:Value).ownBlock∧some k_≠(U1:Value).ownBlock∧some k_≠(U2:Value).ownBlock∧some k_≠(U7:Value).ownBlock) (Kd.R_keptB (D1.out) hkp (fun k_ hk_ hs_=>(hk_.1.1.1) hs_)) (fun k_ hk_=>⟨hk_.1.1.1.2,hk_.1.1.2,hk_.1.2,fun e_=>Or.elim (o0.1 k_ e_.symm) (fun hs_=>hk_.2.1 hs_) (fun hn_=>Nat.not_le.2 hk_.2.2 hn_)⟩));replace R7:=aM (Kd.R_mono (ok':=fun k_=>some k_≠(.slice p9 B6.length r5:Value).ownBlock∧some k_≠(U1:Value).ownBlock∧some k_≠(U2:Value).ownBlock∧some k_≠(U7:Value).ownBlock) (Kd.R_keptB (R7.out) hkp (fun k_ hk_ hs_=>(hk_.1.1.2) hs_)) (fun k_ hk_=>⟨hk_.1.1.1.1,hk_.1.1.2,hk_.1.2,fun e_=>Or.elim (o0.1 k_ e_.symm) (fun hs_=>hk_.2.1 hs_) (fun hn_=>Nat.not_le.2 hk_.2.2 hn_)⟩));replace U4:=aM (Kd.R_mono (ok':=fun k_=>some k_≠(.slice p9 B6.length r5:Value).ownBlock∧some k_≠(.slice R8 P8.length R9:Value).ownBlock∧some k_≠(U2:Value).ownBlock∧some k_≠(U7:Value).ownBlock) (Kd.R_keptB (U4.out) hkp (fun k_ hk_ hs_=>(hk_.1.2) hs_)) (fun k_ hk_=>⟨hk_.1.1.1.2,hk_.1.2,hk_.1.1.1.1,fun e_=>Or.elim (o0.1 k_ e_.symm) (fun hs_=>hk_.2.1 hs_) (fun hn_=>Nat.not_le.2 hk_.2.2 hn_)⟩));replace U5:=aM (Kd.R_mono (ok':=fun k_=>some k_≠(.slice p9 B6.length r5:Value).ownBlock∧some k_≠(.slice R8 P8.length R9:Value).ownBlock∧some k_≠(U1:Value).ownBlock∧some k_≠(U7:Value).ownBlock) (Kd.R_keptB (U5.out) hkp (fun k_ hk_ hs_=>(hk_.1.2) hs_)) (fun k_ hk_=>⟨hk_.1.1.1.2,hk_.1.2,hk_.1.1.1.1,fun e_=>Or.elim (o0.1 k_ e_.symm) (fun hs_=>hk_.2.1 hs_) (fun hn_=>Nat.not_le.2 hk_.2.2 hn_)⟩));replace HB:=aM (hb);clear D2;clear hb hkp o0))
     go_ret2
     exact⟨_,_,by first|rfl|(simp [errW_none,errW_some] <;> rfl)|(simp only[← f3,← l6];first|rfl|(simp [errW_none,errW_some] <;> rfl))|(simp [*,errW_none,errW_some] <;> rfl),by exact rX (Kd.R_mono U8.out (fun _ hk=>hk.2.2.1)),by exact rX (Kd.R_mono U4.out (fun _ hk=>hk.2.2.2)),pB⟩
 ·rw[if_neg c4] at H;exact absurd H (by simp)



end Go.Proofs.Ytokkiljkgejnhaa.Print
