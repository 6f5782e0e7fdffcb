import Derived.Test.YtnklckihalhlmaaPrint0
import Derived.Test.YtnklckihalhlmaaPrint8
import Derived.Test.YtnklckihalhlmaaPrint11
namespace Go.Proofs.Ytnklckihalhlmaa.Print
open Go.RowKit Go.Proofs.YtnklckihalhlmaaW.PrintWords Go.Proofs.YtnklckihalhlmaaW.PrintLast Go.Proofs.YtnklckihalhlmaaW.PrintMore
attribute [local go_sem] max2_int min2_int max_two min_two max_three min_three max_four min_four
set_option linter.unusedVariables false
set_option maxRecDepth 100000
set_option maxHeartbeats 8000000
set_option linter.unusedSimpArgs false

mutual
def Bzy.l0:Nat→Int→Int→List Int→List Int→Int→List Int→Int→Int→List Int→Option (List Int × Int)
 | 0,_,_,_,_,_,_,_,_,_=>none
 | k+1,x0,x6,x8,x10,x11,x35,x36,x37,x189000=>if x37 < x36 then(if 0≤x37 then(if x37 < (x35.length:Int) then((Gzb.f x0 (rd x35 x37) x6).bind fun bt190=>(if x37 < (x8.length:Int) then((some (x8.set (x37:Int).toNat bt190.1:List Int)).bind fun y192=>(if x37 < (x189000.length:Int) then(if x37 < (x10.length:Int) then(Bzy.l0 k x0 x6 y192 (x10.set (x37:Int).toNat x37) (wrap64 (x11 - (rd y192 x37))) x35 x36 (wrap64 (x37+1)) (x189000.set (x37:Int).toNat bt190.2)) else(none)) else(none))) else(none))) else(none)) else(none)) else((Czp.f k x10 [x189000]).bind fun t196=>(if 0≤x11 then(if x11≤(x10.length:Int) then((some (t196.take (x11:Int).toNat:List Int)).bind fun y197=>(Bzy.l1 k x8 y197 (y197.length:Int) 0)) else(none)) else(none)))
def Bzy.l1:Nat→List Int→List Int→Int→Int→Option (List Int × Int)
 | 0,_,_,_,_=>none
 | k+1,x8,x71,x72,x73=>if x73 < x72 then(if 0≤x73 then(if x73 < (x71.length:Int) then(if 0≤(rd x71 x73) then(if(rd x71 x73) < (x8.length:Int) then(Bzy.l1 k (x8.set ((rd x71 x73):Int).toNat (wrap64 ((rd x8 (rd x71 x73))+1))) x71 x72 (wrap64 (x73+1))) else(none)) else(none)) else(none)) else(none)) else(some (x8,0))
end
def Bzy.f (k:Nat) (a0:Int) (l1:List Int):Option (List Int × Int):=(Ezz.f k a0 l1).bind fun bt177=>(if bt177.2=0 then(if 0≤(l1.length:Int) then(if((l1.length:Int):Int).toNat≤35184372088832 then(Bzy.l0 k a0 bt177.1 (List.replicate ((l1.length:Int):Int).toNat 0) (List.replicate ((l1.length:Int):Int).toNat 0) a0 l1 (l1.length:Int) 0 (List.replicate ((l1.length:Int):Int).toNat 0)) else(none)) else(none)) else(some (([]:List Int),bt177.2)))
theorem Bzy.mono_l:∀ k,(∀ y0 y1 y2 y3 y4 y5 y6 y7 y8,LeO (Bzy.l0 k y0 y1 y2 y3 y4 y5 y6 y7 y8) (Bzy.l0 (k+1) y0 y1 y2 y3 y4 y5 y6 y7 y8))∧(∀ y0 y1 y2 y3,LeO (Bzy.l1 k y0 y1 y2 y3) (Bzy.l1 (k+1) y0 y1 y2 y3))
 | 0=>⟨fun _ _ _ _ _ _ _ _ _ r h=>by simp [Bzy.l0] at h,fun _ _ _ _ r h=>by simp [Bzy.l1] at h⟩
 | k+1=>by
  obtain⟨ih0,ih1⟩:=Bzy.mono_l k;have i0:=@Ezz.mono;have i1:=@Czp.mono;refine⟨?_,?_⟩
  ·intro y0 y1 y2 y3 y4 y5 y6 y7 y8;unfold Bzy.l0;exact mM
  ·intro y0 y1 y2 y3;unfold Bzy.l1;exact mM
theorem Bzy.mono:∀ a0 a1 k,LeO (Bzy.f k a0 a1) (Bzy.f (k+1) a0 a1):=by
 intro a0 a1 k;obtain⟨ih0,ih1⟩:=Bzy.mono_l k;unfold Bzy.f;have i0:=@Ezz.mono;have i1:=@Czp.mono;exact mM
def Bzy.T4:Bool × List (List Nat × List Nat):=(true,[([],[]),([0],[0]),([1,1],[1]),([],[]),([3],[3]),([4,4],[4]),([],[]),([6],[6]),([7,7],[7]),([],[]),([2,0,1,2,9],[2]),([9,5,10,0,1,2,3,4,5,9,10],[5,9]),([8,11,0,1,2,3,4,5,6,7,8,9,10,11],[8])])
def Bzy.B4:List Nat:=[0,1,3,0,8,24,0,64,192,0,519,1599,4095]
theorem Bzy.tab4:rtab .any (opsOf Try.f36 4)=Bzy.T4:=by kernel_rfl
theorem Bzy.bits4:waitsOk Bzy.T4.2 Bzy.B4=true:=by kernel_rfl
def Bzy.T9:Bool × List (List Nat × List Nat):=(true,[([],[]),([],[]),([],[]),([],[]),([],[]),([],[]),([],[]),([4,5,6],[4,5,6]),([7],[7]),([8],[8]),([8],[8]),([0,1,0,1,4,5,6,7,8,9],[0,1]),([11,9,7,0,1,4,5,6,7,8,9],[9,11]),([2,3,0,1,2,3,4,5,6,7,8,9,10,11,12],[2,3]),([13,10,12,0,1,2,3,4,5,6,7,8,9,10,11,12],[10,13])])
def Bzy.B9:List Nat:=[0,0,0,0,0,0,0,112,240,496,496,1011,3059,8191,16383]
theorem Bzy.tab9:rtab .any (opsOf Try.f36 9)=Bzy.T9:=by kernel_rfl
theorem Bzy.bits9:waitsOk Bzy.T9.2 Bzy.B9=true:=by kernel_rfl
theorem Bzy.calls (k:Nat) (a0:Int) (A1:Option Addr) (c1:Nat) (l1:List Int) (r1:List Int) (r2:Int) (w:World) (hr1:Kd.C (Kd.int .i64) w A1 l1.length l1) (hc1:l1.length≤c1) (h:Bzy.f k a0 l1=some (r1,r2)) :
  Calls Try.prog 36 #[.int .i64 a0,.slice A1 l1.length c1] w fun e w'=>∃ v0_:Value,e=.returned (.tuple #[v0_,.int .i64 r2])∧Kd.R (Kd.int .i64) 3 w' w.heap.size (fun _=>True) v0_ r1∧Below w.heap.size w w':=by
 have HR1:=aM hr1;have HC1:=aM hc1;clear hr1 hc1;have HB:=aM (Below.refl w.heap.size w);have H:((Ezz.f k a0 l1).bind fun bt177=>(if bt177.2=0 then(if 0≤(l1.length:Int) then(if((l1.length:Int):Int).toNat≤35184372088832 then(Bzy.l0 k a0 bt177.1 (List.replicate ((l1.length:Int):Int).toNat 0) (List.replicate ((l1.length:Int):Int).toNat 0) a0 l1 (l1.length:Int) 0 (List.replicate ((l1.length:Int):Int).toNat 0)) else(none)) else(none)) else(some (([]:List Int),bt177.2))))=some (r1,r2):=h
 clear h;obtain⟨⟨t177,t178⟩,A3,H⟩:=bT H;(try dsimp only at H);by_cases c4:t178=0
 ·rw[if_pos c4] at H;have c4b0:(t178 == 0)=true:=beq_iff_eq.mpr c4;have c4b1:(t178 != 0)=false:=bne_eq_false_iff_eq.mpr c4;clear c4;obtain⟨c5,H⟩:=iO H;have c5b0:=eq_true c5;have c5b1:decide (0≤(l1.length:Int))=true:=dE c5;clear c5;obtain⟨c6,H⟩:=iO H;have c6b0:=eq_true c6;have c6b1:decide (((l1.length:Int):Int).toNat≤35184372088832)=true:=dE c6;clear c6;obtain⟨y179,hy179⟩:∃ y_:List Int,y_=(List.replicate ((l1.length:Int):Int).toNat 0):=⟨_,rfl⟩;replace H:(Bzy.l0 k a0 t177 y179 (List.replicate ((l1.length:Int):Int).toNat 0) a0 l1 (l1.length:Int) 0 (List.replicate ((l1.length:Int):Int).toNat 0))=some (r1,r2):=yE hy179 H
  have Ny179:=aM hy179;clear hy179;obtain⟨y182,hy182⟩:∃ y_:List Int,y_=(List.replicate ((l1.length:Int):Int).toNat 0):=⟨_,rfl⟩;replace H:(Bzy.l0 k a0 t177 y179 (List.replicate ((l1.length:Int):Int).toNat 0) a0 l1 (l1.length:Int) 0 y182)=some (r1,r2):=yE hy182 H
  have Ny182:=aM hy182;clear hy182;obtain⟨y185,hy185⟩:∃ y_:List Int,y_=(List.replicate ((l1.length:Int):Int).toNat 0):=⟨_,rfl⟩;replace H:(Bzy.l0 k a0 t177 y179 y185 a0 l1 (l1.length:Int) 0 y182)=some (r1,r2):=yE hy185 H
  have Ny185:=aM hy185;clear hy185;have H':=aM H;clear H;have hmf_:∀ (fn:Fn) (first cap:Array Value) (w:World),(Instr.makeFunc fn first cap).run Try.prog w=.ok (.func fn first cap) w:=fun _ _ _ _=>rfl
  go_enter Try.func36,Try.ntmps36
  try go_wp2_with (first|((with_reducible refine gc 52 rfl ?_);refine gC 52 (some 19) Try.func52 #[.int .i64 a0,.slice A1 l1.length c1] ?_;(with_reducible refine(Ezz.calls k a0 _ _ l1 t177 t178 _ ?side1 ?side2 A3.out).mono ?_);(case side1=>exact cX HR1.out);(case side2=>exact HC1.out);rintro e w7 ⟨rfl,hb⟩;refine⟨_,rfl,?_⟩;replace HB:=bB hb;clear hb))
  have n0_:=aM (below_drew1 HB.out);clear HB;have HB:=n0_;clear n0_;refine start_ (n:=13) (S:=fun w'=>True) (ds:=[]) (bA 13 0) (by kernel_rfl) rfl rfl trivial (fun hHeld=>?_);refine with_tabW Bzy.tab4 Bzy.bits4 (fun HT_ HW_=>?_)
  generalize w7.drew=w8 at HB hHeld ⊢;refine pS 0 25 HT_ ?_;refine pS 3 28 HT_ ?_;refine pS 6 31 HT_ ?_;refine inv_at [1,2,4,5,7,8,9,10,11,12] (fun a0_ b a w'=>∃ (v180:Value) (v183:Value) (v186:Value) (gb188:Nat) (m9_:Value) (m10_:Value) (m12_:Value),a=putSel a0_ b [(1,26,.int .i64 (l1.length:Int)),(2,27,v180),(4,29,.int .i64 (l1.length:Int)),(5,30,v183),(7,32,.int .i64 (l1.length:Int)),(8,33,v186),(9,9,m9_),(10,8,m10_),(12,10,m12_)]∧(Below w.heap.size w w')∧(b 2=true→Kd.R (Kd.int .i64) 3 w' w.heap.size (fun _=>True) v180 y179)∧(b 5=true→Kd.R (Kd.int .i64) 3 w' w.heap.size (fun _=>True) v183 y182)∧(b 8=true→Kd.R (Kd.int .i64) 3 w' w.heap.size (fun _=>True) v186 y185)∧(b 9=true→b 11=false→w'.heap[gb188]?=some (.cells #[.slice none 0 0] 34 (0,0)))∧(b 9=true→w.heap.size≤gb188)∧(b 9=true→w.heap.size≤gb188)∧(b 11=true→w'.heap[gb188]?=some (.cells #[v183] 34 (0,0)))∧(b 9=true→(m9_:Value)=.pointer (some ⟨gb188,0,none⟩))∧(b 10=true→(m10_:Value)=v180)∧(b 12=true→(m12_:Value)=v186)∧(b 2=true→b 5=true→NEb v180 v183)∧(b 2=true→b 8=true→NEb v180 v186)∧(b 5=true→b 8=true→NEb v183 v186)) HT_.out HW_.out (by kernel_rfl) (by kernel_rfl) ?_ ?_ ?_
  ·exact⟨.bool false,.bool false,.bool false,0,.bool false,.bool false,.bool false,by simp only[putSel,Bool.false_eq_true,if_false],HB.out,fun h_=>absurd h_ (by decide),fun h_=>absurd h_ (by decide),fun h_=>absurd h_ (by decide),fun h_=>absurd h_ (by decide),fun h_=>absurd h_ (by decide),fun h_=>absurd h_ (by decide),fun h_=>absurd h_ (by decide),fun h_=>absurd h_ (by decide),fun h_=>absurd h_ (by decide),fun h_=>absurd h_ (by decide),fun h_=>absurd h_ (by decide),fun h_=>absurd h_ (by decide),fun h_=>absurd h_ (by decide)⟩
  ·skip
   clear HB;refine steps_cons ?_ ?_
   ·rintro b a w' ⟨v180,v183,v186,gb188,m9_,m10_,m12_,ha,Q_HB,Q_HO181,Q_HO184,Q_HO187,Q_BK188,Q_GW188,Q_GE188,Q_BK188_e11,Q_X9_,Q_X10_,Q_X12_,Q_N0,Q_N1,Q_N2⟩ hb_ hon hoff;refine⟨_,rfl,fun K hK=>?_⟩
    have e25:a.tmps[25]?=some (.slice A1 l1.length c1):=by rw[ha];exact(putSel_off rfl).trans rfl
    replace ha:=aM ha;have HB:=aM Q_HB;refine value_ (w1:=w') (v:=.int .i64 (l1.length:Int)) (by rfl) rfl ?_ ?_
    ·go_simp
     (try simp only[i64_w])
     try rfl
    refine hK.out _ _ ⟨v180,v183,v186,gb188,m9_,m10_,m12_,(by rw[ha.out];exact putSel_upk 0 hb_ rfl rfl rfl),Q_HB,fun h0_=>absurd ((hoff 2 (by kernel_rfl)).symm.trans h0_) (by decide),Q_HO184,Q_HO187,Q_BK188,Q_GW188,Q_GE188,fun h0_=>absurd ((hoff 11 (by kernel_rfl)).symm.trans h0_) (by decide),Q_X9_,fun h0_=>absurd ((hoff 10 (by kernel_rfl)).symm.trans h0_) (by decide),fun h0_=>absurd ((hoff 12 (by kernel_rfl)).symm.trans h0_) (by decide),Q_N0,Q_N1,Q_N2⟩
   refine steps_cons ?_ ?_
   ·rintro b a w' ⟨v180,v183,v186,gb188,m9_,m10_,m12_,ha,Q_HB,Q_HO181,Q_HO184,Q_HO187,Q_BK188,Q_GW188,Q_GE188,Q_BK188_e11,Q_X9_,Q_X10_,Q_X12_,Q_N0,Q_N1,Q_N2⟩ hb_ hon hoff;refine⟨_,rfl,fun K hK=>?_⟩
    have e26:a.tmps[26]?=some (.int .i64 (l1.length:Int)):=by rw[ha];exact putSel_on (e:=(1,26,.int .i64 (l1.length:Int))) 0 rfl rfl (hon 1 (by kernel_rfl)) rfl
    replace ha:=aM ha;have HB:=aM Q_HB;refine Kd.R_make_step (Kd.int .i64) _ 3 (by rfl) (N:=27) rfl 34 _ _ rfl (l1.length:Int) (by first|rfl|exact eval_some (by assumption)) (by first|rfl|exact eval_some (by assumption)) Try.underlying34 (.int .i64 0) 8 info3 rfl (by decide) (by omega) 0 (ok:=fun _=>True) (okp:=fun _=>True) rfl (fun _ hk=>hk) trivial (oE aS) (Nat.le_trans (Nat.mul_le_mul_right _ (oE aS:(l1.length:Int).toNat≤35184372088832)) (by omega)) (Below.refl _ _) (Nat.le_refl _) ?_
    intro v180 w9 ho10 hb hg_ hnew_;have z_N0:=fun(h0_:b 5=true)=>NEb_new (Q_HO184 h0_) (Kd.R_base ho10)
    have z_N1:=fun(h0_:b 8=true)=>NEb_new (Q_HO187 h0_) (Kd.R_base ho10)
    clear hg_ hnew_;(first|rw[← Ny179.out] at ho10|(simp only[Int.reduceToNat] at ho10;rw[← Ny179.out] at ho10))
    have n0_:=rL ho10;have n1_:=bB hb;have z_HO184:=fun(h0_:b 5=true)=>(show Kd.R (Kd.int .i64) 3 w9 w.heap.size (fun _=>True) v183 y182 from by first|exact(Kd.R_elder' (rX (Q_HO184 h0_)) (Kd.R_base ho10) hb)|exact Kd.R_mono (Kd.R_elder' (rX (Q_HO184 h0_)) (Kd.R_base ho10) hb) (fun _ h_=>by first|trivial|exact h_|exact h_.1))
    have z_HO187:=fun(h0_:b 8=true)=>(show Kd.R (Kd.int .i64) 3 w9 w.heap.size (fun _=>True) v186 y185 from by first|exact(Kd.R_elder' (rX (Q_HO187 h0_)) (Kd.R_base ho10) hb)|exact Kd.R_mono (Kd.R_elder' (rX (Q_HO187 h0_)) (Kd.R_base ho10) hb) (fun _ h_=>by first|trivial|exact h_|exact h_.1))
    have z_BK188:=fun(h0_:b 9=true) (h1_:b 11=false)=>(show w9.heap[gb188]?=some (.cells #[.slice none 0 0] 34 (0,0)) from by first|exact(blk_below (g:=gb188) (o:=.cells #[.slice none 0 0] 34 (0,0)) (by(with_reducible repeat(first|refine blk_drewN ?_ _|refine blk_drew ?_|refine blk_alloc ?_ _));exact(Q_BK188 h0_ h1_)) hb))
    clear HB;have HO181:=n0_;have HB:=n1_;clear n0_ n1_;clear hb ho10;refine hK.out _ _ ⟨v180,v183,v186,gb188,m9_,m10_,m12_,(by rw[ha.out];exact putSel_upk 1 hb_ rfl rfl rfl),pB,fun _=>(rX HO181.out),z_HO184,z_HO187,z_BK188,Q_GW188,Q_GE188,fun h0_=>absurd ((hoff 11 (by kernel_rfl)).symm.trans h0_) (by decide),Q_X9_,fun h0_=>absurd ((hoff 10 (by kernel_rfl)).symm.trans h0_) (by decide),fun h0_=>absurd ((hoff 12 (by kernel_rfl)).symm.trans h0_) (by decide),fun _ h1_=>z_N0 h1_,fun _ h1_=>z_N1 h1_,Q_N2⟩
   refine steps_cons ?_ ?_
   ·rintro b a w' ⟨v180,v183,v186,gb188,m9_,m10_,m12_,ha,Q_HB,Q_HO181,Q_HO184,Q_HO187,Q_BK188,Q_GW188,Q_GE188,Q_BK188_e11,Q_X9_,Q_X10_,Q_X12_,Q_N0,Q_N1,Q_N2⟩ hb_ hon hoff;refine⟨_,rfl,fun K hK=>?_⟩
    have e28:a.tmps[28]?=some (.slice A1 l1.length c1):=by rw[ha];exact(putSel_off rfl).trans rfl
    replace ha:=aM ha;have HB:=aM Q_HB;refine value_ (w1:=w') (v:=.int .i64 (l1.length:Int)) (by rfl) rfl ?_ ?_
    ·go_simp
     (try simp only[i64_w])
     try rfl
    refine hK.out _ _ ⟨v180,v183,v186,gb188,m9_,m10_,m12_,(by rw[ha.out];exact putSel_upk 2 hb_ rfl rfl rfl),Q_HB,Q_HO181,fun h0_=>absurd ((hoff 5 (by kernel_rfl)).symm.trans h0_) (by decide),Q_HO187,Q_BK188,Q_GW188,Q_GE188,fun h0_=>absurd ((hoff 11 (by kernel_rfl)).symm.trans h0_) (by decide),Q_X9_,Q_X10_,fun h0_=>absurd ((hoff 12 (by kernel_rfl)).symm.trans h0_) (by decide),Q_N0,Q_N1,Q_N2⟩
   refine steps_cons ?_ ?_
   ·rintro b a w' ⟨v180,v183,v186,gb188,m9_,m10_,m12_,ha,Q_HB,Q_HO181,Q_HO184,Q_HO187,Q_BK188,Q_GW188,Q_GE188,Q_BK188_e11,Q_X9_,Q_X10_,Q_X12_,Q_N0,Q_N1,Q_N2⟩ hb_ hon hoff;refine⟨_,rfl,fun K hK=>?_⟩
    have e29:a.tmps[29]?=some (.int .i64 (l1.length:Int)):=by rw[ha];exact putSel_on (e:=(4,29,.int .i64 (l1.length:Int))) 2 rfl rfl (hon 4 (by kernel_rfl)) rfl
    replace ha:=aM ha;have HB:=aM Q_HB;refine Kd.R_make_step (Kd.int .i64) _ 3 (by rfl) (N:=30) rfl 34 _ _ rfl (l1.length:Int) (by first|rfl|exact eval_some (by assumption)) (by first|rfl|exact eval_some (by assumption)) Try.underlying34 (.int .i64 0) 8 info3 rfl (by decide) (by omega) 0 (ok:=fun _=>True) (okp:=fun _=>True) rfl (fun _ hk=>hk) trivial (oE aS) (Nat.le_trans (Nat.mul_le_mul_right _ (oE aS:(l1.length:Int).toNat≤35184372088832)) (by omega)) (Below.refl _ _) (Nat.le_refl _) ?_
    intro v183 w9 ho10 hb hg_ hnew_;have z_N0:=fun(h0_:b 2=true)=>NEb_new (Q_HO181 h0_) (Kd.R_base ho10)
    have z_N2:=fun(h0_:b 8=true)=>NEb_new (Q_HO187 h0_) (Kd.R_base ho10)
    clear hg_ hnew_;(first|rw[← Ny182.out] at ho10|(simp only[Int.reduceToNat] at ho10;rw[← Ny182.out] at ho10))
    have n0_:=rL ho10;have n1_:=bB hb;have z_HO181:=fun(h0_:b 2=true)=>(show Kd.R (Kd.int .i64) 3 w9 w.heap.size (fun _=>True) v180 y179 from by first|exact(Kd.R_elder' (rX (Q_HO181 h0_)) (Kd.R_base ho10) hb)|exact Kd.R_mono (Kd.R_elder' (rX (Q_HO181 h0_)) (Kd.R_base ho10) hb) (fun _ h_=>by first|trivial|exact h_|exact h_.1))
    have z_HO187:=fun(h0_:b 8=true)=>(show Kd.R (Kd.int .i64) 3 w9 w.heap.size (fun _=>True) v186 y185 from by first|exact(Kd.R_elder' (rX (Q_HO187 h0_)) (Kd.R_base ho10) hb)|exact Kd.R_mono (Kd.R_elder' (rX (Q_HO187 h0_)) (Kd.R_base ho10) hb) (fun _ h_=>by first|trivial|exact h_|exact h_.1))
    have z_BK188:=fun(h0_:b 9=true) (h1_:b 11=false)=>(show w9.heap[gb188]?=some (.cells #[.slice none 0 0] 34 (0,0)) from by first|exact(blk_below (g:=gb188) (o:=.cells #[.slice none 0 0] 34 (0,0)) (by(with_reducible repeat(first|refine blk_drewN ?_ _|refine blk_drew ?_|refine blk_alloc ?_ _));exact(Q_BK188 h0_ h1_)) hb))
    clear HB;have HO184:=n0_;have HB:=n1_;clear n0_ n1_;clear hb ho10;refine hK.out _ _ ⟨v180,v183,v186,gb188,m9_,m10_,m12_,(by rw[ha.out];exact putSel_upk 3 hb_ rfl rfl rfl),pB,z_HO181,fun _=>(rX HO184.out),z_HO187,z_BK188,Q_GW188,Q_GE188,fun h0_=>absurd ((hoff 11 (by kernel_rfl)).symm.trans h0_) (by decide),Q_X9_,Q_X10_,fun h0_=>absurd ((hoff 12 (by kernel_rfl)).symm.trans h0_) (by decide),fun h1_ _=>(z_N0 h1_).symm,Q_N1,fun _ h1_=>z_N2 h1_⟩
   refine steps_cons ?_ ?_
   ·rintro b a w' ⟨v180,v183,v186,gb188,m9_,m10_,m12_,ha,Q_HB,Q_HO181,Q_HO184,Q_HO187,Q_BK188,Q_GW188,Q_GE188,Q_BK188_e11,Q_X9_,Q_X10_,Q_X12_,Q_N0,Q_N1,Q_N2⟩ hb_ hon hoff;refine⟨_,rfl,fun K hK=>?_⟩
    have e31:a.tmps[31]?=some (.slice A1 l1.length c1):=by rw[ha];exact(putSel_off rfl).trans rfl
    replace ha:=aM ha;have HB:=aM Q_HB;refine value_ (w1:=w') (v:=.int .i64 (l1.length:Int)) (by rfl) rfl ?_ ?_
    ·go_simp
     (try simp only[i64_w])
     try rfl
    refine hK.out _ _ ⟨v180,v183,v186,gb188,m9_,m10_,m12_,(by rw[ha.out];exact putSel_upk 4 hb_ rfl rfl rfl),Q_HB,Q_HO181,Q_HO184,fun h0_=>absurd ((hoff 8 (by kernel_rfl)).symm.trans h0_) (by decide),Q_BK188,Q_GW188,Q_GE188,Q_BK188_e11,Q_X9_,Q_X10_,fun h0_=>absurd ((hoff 12 (by kernel_rfl)).symm.trans h0_) (by decide),Q_N0,Q_N1,Q_N2⟩
   refine steps_cons ?_ ?_
   ·rintro b a w' ⟨v180,v183,v186,gb188,m9_,m10_,m12_,ha,Q_HB,Q_HO181,Q_HO184,Q_HO187,Q_BK188,Q_GW188,Q_GE188,Q_BK188_e11,Q_X9_,Q_X10_,Q_X12_,Q_N0,Q_N1,Q_N2⟩ hb_ hon hoff;refine⟨_,rfl,fun K hK=>?_⟩
    have e32:a.tmps[32]?=some (.int .i64 (l1.length:Int)):=by rw[ha];exact putSel_on (e:=(7,32,.int .i64 (l1.length:Int))) 4 rfl rfl (hon 7 (by kernel_rfl)) rfl
    replace ha:=aM ha;have HB:=aM Q_HB;refine Kd.R_make_step (Kd.int .i64) _ 3 (by rfl) (N:=33) rfl 34 _ _ rfl (l1.length:Int) (by first|rfl|exact eval_some (by assumption)) (by first|rfl|exact eval_some (by assumption)) Try.underlying34 (.int .i64 0) 8 info3 rfl (by decide) (by omega) 0 (ok:=fun _=>True) (okp:=fun _=>True) rfl (fun _ hk=>hk) trivial (oE aS) (Nat.le_trans (Nat.mul_le_mul_right _ (oE aS:(l1.length:Int).toNat≤35184372088832)) (by omega)) (Below.refl _ _) (Nat.le_refl _) ?_
    intro v186 w9 ho10 hb hg_ hnew_;have z_N1:=fun(h0_:b 2=true)=>NEb_new (Q_HO181 h0_) (Kd.R_base ho10)
    have z_N2:=fun(h0_:b 5=true)=>NEb_new (Q_HO184 h0_) (Kd.R_base ho10)
    clear hg_ hnew_;(first|rw[← Ny185.out] at ho10|(simp only[Int.reduceToNat] at ho10;rw[← Ny185.out] at ho10))
    have n0_:=rL ho10;have n1_:=bB hb;have z_HO181:=fun(h0_:b 2=true)=>(show Kd.R (Kd.int .i64) 3 w9 w.heap.size (fun _=>True) v180 y179 from by first|exact(Kd.R_elder' (rX (Q_HO181 h0_)) (Kd.R_base ho10) hb)|exact Kd.R_mono (Kd.R_elder' (rX (Q_HO181 h0_)) (Kd.R_base ho10) hb) (fun _ h_=>by first|trivial|exact h_|exact h_.1))
    have z_HO184:=fun(h0_:b 5=true)=>(show Kd.R (Kd.int .i64) 3 w9 w.heap.size (fun _=>True) v183 y182 from by first|exact(Kd.R_elder' (rX (Q_HO184 h0_)) (Kd.R_base ho10) hb)|exact Kd.R_mono (Kd.R_elder' (rX (Q_HO184 h0_)) (Kd.R_base ho10) hb) (fun _ h_=>by first|trivial|exact h_|exact h_.1))
    have z_BK188:=fun(h0_:b 9=true) (h1_:b 11=false)=>(show w9.heap[gb188]?=some (.cells #[.slice none 0 0] 34 (0,0)) from by first|exact(blk_below (g:=gb188) (o:=.cells #[.slice none 0 0] 34 (0,0)) (by(with_reducible repeat(first|refine blk_drewN ?_ _|refine blk_drew ?_|refine blk_alloc ?_ _));exact(Q_BK188 h0_ h1_)) hb))
    have z_BK188_e11:=fun(h0_:b 11=true)=>(show w9.heap[gb188]?=some (.cells #[v183] 34 (0,0)) from by first|exact(blk_below (g:=gb188) (o:=.cells #[v183] 34 (0,0)) (by(with_reducible repeat(first|refine blk_drewN ?_ _|refine blk_drew ?_|refine blk_alloc ?_ _));exact(Q_BK188_e11 h0_)) hb))
    clear HB;have HO187:=n0_;have HB:=n1_;clear n0_ n1_;clear hb ho10;refine hK.out _ _ ⟨v180,v183,v186,gb188,m9_,m10_,m12_,(by rw[ha.out];exact putSel_upk 5 hb_ rfl rfl rfl),pB,z_HO181,z_HO184,fun _=>(rX HO187.out),z_BK188,Q_GW188,Q_GE188,z_BK188_e11,Q_X9_,Q_X10_,fun h0_=>absurd ((hoff 12 (by kernel_rfl)).symm.trans h0_) (by decide),Q_N0,fun h1_ _=>(z_N1 h1_).symm,fun h1_ _=>(z_N2 h1_).symm⟩
   refine steps_cons ?_ ?_
   ·rintro b a w' ⟨v180,v183,v186,gb188,m9_,m10_,m12_,ha,Q_HB,Q_HO181,Q_HO184,Q_HO187,Q_BK188,Q_GW188,Q_GE188,Q_BK188_e11,Q_X9_,Q_X10_,Q_X12_,Q_N0,Q_N1,Q_N2⟩ hb_ hon hoff;refine⟨_,rfl,fun K hK=>?_⟩
    replace ha:=aM ha;have HB:=aM Q_HB;refine box_step ?hg (N:=9) ?hd (cs:=#[.slice none 0 0]) (t:=34) ?hr ?_;(case hd=>rfl);(case hg=>rfl);(case hr=>first|(go_simp;done)|(go_simp;rfl))
    intro gb188 hg w9 hbox hb;have n0_:=bB hb;have n1_:=aM (hbox);have n2_:=gA w hg;have n3_:=gA w hg;have z_HO181:=fun(h0_:b 2=true)=>(show Kd.R (Kd.int .i64) 3 w9 w.heap.size (fun _=>True) v180 y179 from by first|exact(Kd.R_below (rX (Q_HO181 h0_)) hb)|exact Kd.R_mono (Kd.R_below (rX (Q_HO181 h0_)) hb) (fun _ h_=>by first|trivial|exact h_|exact h_.1))
    have z_HO184:=fun(h0_:b 5=true)=>(show Kd.R (Kd.int .i64) 3 w9 w.heap.size (fun _=>True) v183 y182 from by first|exact(Kd.R_below (rX (Q_HO184 h0_)) hb)|exact Kd.R_mono (Kd.R_below (rX (Q_HO184 h0_)) hb) (fun _ h_=>by first|trivial|exact h_|exact h_.1))
    have z_HO187:=fun(h0_:b 8=true)=>(show Kd.R (Kd.int .i64) 3 w9 w.heap.size (fun _=>True) v186 y185 from by first|exact(Kd.R_below (rX (Q_HO187 h0_)) hb)|exact Kd.R_mono (Kd.R_below (rX (Q_HO187 h0_)) hb) (fun _ h_=>by first|trivial|exact h_|exact h_.1))
    clear HB;have HB:=n0_;have BK188:=n1_;have GW188:=n2_;have GE188:=n3_;clear n0_ n1_ n2_ n3_;clear hb hbox hg;refine hK.out _ _ ⟨v180,v183,v186,gb188,(.pointer (some ⟨gb188,0,none⟩)),m10_,m12_,(by rw[ha.out];exact putSel_upk 6 hb_ rfl rfl rfl),pB,z_HO181,z_HO184,z_HO187,fun _ _=>(kW BK188),fun _=>GW188.out,fun _=>GE188.out,fun h0_=>absurd ((hoff 11 (by kernel_rfl)).symm.trans h0_) (by decide),fun _=>rfl,fun h0_=>absurd ((hoff 10 (by kernel_rfl)).symm.trans h0_) (by decide),fun h0_=>absurd ((hoff 12 (by kernel_rfl)).symm.trans h0_) (by decide),Q_N0,Q_N1,Q_N2⟩
   refine steps_cons ?_ ?_
   ·rintro b a w' ⟨v180,v183,v186,gb188,m9_,m10_,m12_,ha,Q_HB,Q_HO181,Q_HO184,Q_HO187,Q_BK188,Q_GW188,Q_GE188,Q_BK188_e11,Q_X9_,Q_X10_,Q_X12_,Q_N0,Q_N1,Q_N2⟩ hb_ hon hoff;refine⟨_,rfl,fun K hK=>?_⟩
    have e27:a.tmps[27]?=some (v180):=by rw[ha];exact putSel_on (e:=(2,27,v180)) 1 rfl rfl (hon 2 (by kernel_rfl)) rfl
    replace ha:=aM ha;have HB:=aM Q_HB;have HO181:=aM (Q_HO181 (hon 2 (by kernel_rfl)))
    have BK188:=aM (Q_BK188 (hon 9 (by kernel_rfl)) (hoff 11 (by kernel_rfl)))
    have GW188:=aM (Q_GW188 (hon 9 (by kernel_rfl)))
    have GE188:=aM (Q_GE188 (hon 9 (by kernel_rfl)))
    refine value_ (w1:=w') (v:=v180) (by rfl) rfl ?_ ?_
    ·go_simp
     (try simp only[i64_w])
     try rfl
    refine hK.out _ _ ⟨v180,v183,v186,gb188,m9_,(v180),m12_,(by rw[ha.out];exact putSel_upk 7 hb_ rfl rfl rfl),Q_HB,Q_HO181,Q_HO184,Q_HO187,Q_BK188,Q_GW188,Q_GE188,fun h0_=>absurd ((hoff 11 (by kernel_rfl)).symm.trans h0_) (by decide),Q_X9_,fun _=>rfl,fun h0_=>absurd ((hoff 12 (by kernel_rfl)).symm.trans h0_) (by decide),Q_N0,Q_N1,Q_N2⟩
   refine steps_cons ?_ ?_
   ·rintro b a w' ⟨v180,v183,v186,gb188,m9_,m10_,m12_,ha,Q_HB,Q_HO181,Q_HO184,Q_HO187,Q_BK188,Q_GW188,Q_GE188,Q_BK188_e11,Q_X9_,Q_X10_,Q_X12_,Q_N0,Q_N1,Q_N2⟩ hb_ hon hoff;refine⟨_,rfl,fun K hK=>?_⟩
    have e9:a.tmps[9]?=some (m9_):=by rw[ha];exact putSel_on (e:=(9,9,m9_)) 6 rfl rfl (hon 9 (by kernel_rfl)) rfl
    rw[Q_X9_ (hon 9 (by kernel_rfl))] at e9
    have e30:a.tmps[30]?=some (v183):=by rw[ha];exact putSel_on (e:=(5,30,v183)) 3 rfl rfl (hon 5 (by kernel_rfl)) rfl
    replace ha:=aM ha;have HB:=aM Q_HB;have HO181:=aM (Q_HO181 (hon 2 (by kernel_rfl)))
    have HO184:=aM (Q_HO184 (hon 5 (by kernel_rfl)))
    have BK188:=aM (Q_BK188 (hon 9 (by kernel_rfl)) hb_)
    have GW188:=aM (Q_GW188 (hon 9 (by kernel_rfl)))
    have GE188:=aM (Q_GE188 (hon 9 (by kernel_rfl)))
    obtain⟨Ao15,co15,eo15⟩:=Kd.R_slice HO184.out;(first|subst eo15|(injection eo15 with f1_ f2_ f3_;have f4_:=f1_.symm;have f5_:=f3_.symm;clear f1_ f2_ f3_;subst f4_;subst f5_))
    have hs16:w'.cell? ⟨gb188,0,none⟩=some (.slice none 0 0):=(blk_cell BK188.out 0).trans rfl;have hfs16:=blk_frozen BK188.out 0;refine skip_ (w1:=?_) (by rfl) rfl ?_ ?_
    rotate_left
    ·go_simp
     rfl
    refine hK.out _ _ ⟨v180,.slice Ao15 y182.length co15,v186,gb188,m9_,m10_,m12_,(by rw[ha.out];exact putSel_none (v:=undef) rfl),pB,fun _=>(Kd.R_mono (rT HO181 BK188) (fun _ hk=>hk)),fun _=>(Kd.R_mono (rT HO184 BK188) (fun _ hk=>hk)),fun h0_=>(rX (Kd.R_mono (Kd.R_far (p:=⟨gb188,0,none⟩) (Kd.R_types (Q_HO187 h0_) BK188.out (by decide)) (fun _ hk=>hk.2) (.slice Ao15 y182.length co15)) (by first|exact(fun _ hk=>hk.1)|exact(fun _ hk=>⟨hk.1.1,hk.1.2⟩)))),fun _ h1_=>absurd ((up_self b 11).symm.trans h1_) (by decide),fun _=>GW188.out,fun _=>GE188.out,fun _=>(kQ BK188),Q_X9_,Q_X10_,fun h0_=>absurd ((hoff 12 (by kernel_rfl)).symm.trans h0_) (by decide),Q_N0,Q_N1,Q_N2⟩
   refine steps_cons ?_ ?_
   ·rintro b a w' ⟨v180,v183,v186,gb188,m9_,m10_,m12_,ha,Q_HB,Q_HO181,Q_HO184,Q_HO187,Q_BK188,Q_GW188,Q_GE188,Q_BK188_e11,Q_X9_,Q_X10_,Q_X12_,Q_N0,Q_N1,Q_N2⟩ hb_ hon hoff;refine⟨_,rfl,fun K hK=>?_⟩
    have e33:a.tmps[33]?=some (v186):=by rw[ha];exact putSel_on (e:=(8,33,v186)) 5 rfl rfl (hon 8 (by kernel_rfl)) rfl
    replace ha:=aM ha;have HB:=aM Q_HB;have HO181:=aM (Q_HO181 (hon 2 (by kernel_rfl)))
    have HO184:=aM (Q_HO184 (hon 5 (by kernel_rfl)))
    have HO187:=aM (Q_HO187 (hon 8 (by kernel_rfl)))
    have GW188:=aM (Q_GW188 (hon 9 (by kernel_rfl)))
    have GE188:=aM (Q_GE188 (hon 9 (by kernel_rfl)))
    have BK188:=aM (Q_BK188_e11 (hon 11 (by kernel_rfl)))
    refine value_ (w1:=w') (v:=v186) (by rfl) rfl ?_ ?_
    ·go_simp
     (try simp only[i64_w])
     try rfl
    refine hK.out _ _ ⟨v180,v183,v186,gb188,m9_,m10_,(v186),(by rw[ha.out];exact putSel_upk 8 hb_ rfl rfl rfl),Q_HB,Q_HO181,Q_HO184,Q_HO187,fun _ h1_=>absurd ((hon 11 (by kernel_rfl)).symm.trans h1_) (by decide),Q_GW188,Q_GE188,Q_BK188_e11,Q_X9_,Q_X10_,fun _=>rfl,Q_N0,Q_N1,Q_N2⟩
   exact steps_nil
  rintro b a w18 hall ⟨v180,v183,v186,gb188,m9_,m10_,m12_,ha,Q_HB,Q_HO181,Q_HO184,Q_HO187,Q_BK188,Q_GW188,Q_GE188,Q_BK188_e11,Q_X9_,Q_X10_,Q_X12_,Q_N0,Q_N1,Q_N2⟩;clear HB;have hb1_:=hall 1 (by kernel_rfl)
  have hb2_:=hall 2 (by kernel_rfl)
  have hb4_:=hall 4 (by kernel_rfl)
  have hb5_:=hall 5 (by kernel_rfl)
  have hb7_:=hall 7 (by kernel_rfl)
  have hb8_:=hall 8 (by kernel_rfl)
  have hb9_:=hall 9 (by kernel_rfl)
  have hb10_:=hall 10 (by kernel_rfl)
  have hb11_:=hall 11 (by kernel_rfl)
  have hb12_:=hall 12 (by kernel_rfl)
  subst ha;obtain rfl:=(Q_X9_ hb9_).symm;obtain rfl:=(Q_X10_ hb10_).symm;obtain rfl:=(Q_X12_ hb12_).symm;simp only[putSel,hb1_,hb2_,hb4_,hb5_,hb7_,hb8_,hb9_,hb10_,hb11_,hb12_,if_true,Act.put,sA,sZ,sC];have HB:=aM Q_HB;clear Q_HB;have HO181:=aM (Kd.R_reok (ok:=fun k_=>some k_≠(v183:Value).ownBlock∧some k_≠(v186:Value).ownBlock) rfl (Q_HO181 hb2_) (fun k_ hk_=>⟨(Q_N0 hb2_ hb5_) k_ hk_,(Q_N1 hb2_ hb8_) k_ hk_⟩))
  clear Q_HO181;have HO184:=aM (Kd.R_reok (ok:=fun k_=>some k_≠(v180:Value).ownBlock∧some k_≠(v186:Value).ownBlock) rfl (Q_HO184 hb5_) (fun k_ hk_=>⟨(Q_N0 hb2_ hb5_).symm k_ hk_,(Q_N2 hb5_ hb8_) k_ hk_⟩))
  clear Q_HO184;have HO187:=aM (Kd.R_reok (ok:=fun k_=>some k_≠(v180:Value).ownBlock∧some k_≠(v183:Value).ownBlock) rfl (Q_HO187 hb8_) (fun k_ hk_=>⟨(Q_N1 hb2_ hb8_).symm k_ hk_,(Q_N2 hb5_ hb8_).symm k_ hk_⟩))
  clear Q_HO187;clear Q_BK188;have GW188:=aM (Q_GW188 hb9_);clear Q_GW188;have GE188:=aM (Q_GE188 hb9_);clear Q_GE188;have BK188:=aM (Q_BK188_e11 hb11_);clear Q_BK188_e11;clear hall hb1_ hb2_ hb4_ hb5_ hb7_ hb8_ hb9_ hb10_ hb11_ hb12_;try go_wp2
  go_loopg [11,37] k (fun kq v11 v37 w'=>∃ (x8_1:List Int) (x10_1:List Int) (x11_1:Int) (x37_1:Int) (x189000_1:List Int) (u189000:Value),v11=.int .i64 x11_1∧v37=.int .i64 x37_1∧Aside0 (Bzy.l0 kq a0 t177 x8_1 x10_1 x11_1 l1 (l1.length:Int) x37_1 x189000_1=some (r1,r2))∧Aside0 (kq≤k)∧Aside0 (Kd.R (Kd.int .i64) 3 w' w.heap.size (fun k_=>some k_≠(v186:Value).ownBlock∧some k_≠(u189000:Value).ownBlock) v180 x8_1)∧Aside0 (Kd.R (Kd.int .i64) 3 w' w.heap.size (fun k_=>some k_≠(v180:Value).ownBlock∧some k_≠(u189000:Value).ownBlock) v186 x10_1)∧Aside0 (Kd.R (Kd.int .i64) 3 w' w.heap.size (fun k_=>some k_≠(v180:Value).ownBlock∧some k_≠(v186:Value).ownBlock) u189000 x189000_1)∧Aside0 (w'.heap[gb188]?=some (.cells #[u189000] 34 (0,0)))∧Aside0 (Below w.heap.size w w'))
  case atStart=>exact⟨(y179),(y185),(a0),(0),(y182),(v183),sD,sD,H',⟨Nat.le_refl _⟩,⟨by exact rX (Kd.R_mono HO181.out (fun _ hk=>⟨hk.2,hk.1⟩))⟩,⟨rX HO187.out⟩,⟨rX HO184.out⟩,⟨by(with_reducible repeat(first|refine blk_drewN ?_ _|refine blk_drew ?_|refine blk_alloc ?_ _));exact BK188.out⟩,⟨pB⟩⟩
  case round =>
   clear H';try clear c1
   try clear p2
   try clear c3
   try clear c4
   try clear c4b0
   try clear c4b1
   try clear c5
   try clear c5b0
   try clear c5b1
   try clear c6
   try clear c6b0
   try clear c6b1
   obtain⟨x8_1,x10_1,x11_1,x37_1,x189000_1,u189000,rfl,rfl,HA,HK1,HO_8,HO_10,HO_189000,BK188,HB⟩:=hrel;cases gk with
   | zero=>exact absurd HA.out (by simp [Bzy.l0])
   | succ k1 =>
    have H:=HA.out;clear HA;simp only[Bzy.l0] at H;by_cases c19:x37_1 < (l1.length:Int)
    ·rw[if_pos c19] at H;have c19b0:=dE c19;clear c19;obtain⟨c20b0,H⟩:=iN H;obtain⟨c21b0,H⟩:=iN H;obtain⟨⟨t190,t191⟩,A22,H⟩:=bT H;(try dsimp only at H);obtain⟨c23b0,H⟩:=iN H;obtain⟨y192,hy192⟩:∃ y_:List Int,y_=(x8_1.set (x37_1:Int).toNat t190):=⟨_,rfl⟩;replace H:(if x37_1 < (x189000_1.length:Int) then(if x37_1 < (x10_1.length:Int) then(Bzy.l0 k1 a0 t177 y192 (x10_1.set (x37_1:Int).toNat x37_1) (wrap64 (x11_1 - (rd y192 x37_1))) l1 (l1.length:Int) (wrap64 (x37_1+1)) (x189000_1.set (x37_1:Int).toNat t191)) else(none)) else(none))=some (r1,r2):=yE hy192 H
     have Ny192:=aM hy192;clear hy192;obtain⟨c25b0,H⟩:=iN H;obtain⟨y193,hy193⟩:∃ y_:List Int,y_=(x189000_1.set (x37_1:Int).toNat t191):=⟨_,rfl⟩;replace H:(if x37_1 < (x10_1.length:Int) then(Bzy.l0 k1 a0 t177 y192 (x10_1.set (x37_1:Int).toNat x37_1) (wrap64 (x11_1 - (rd y192 x37_1))) l1 (l1.length:Int) (wrap64 (x37_1+1)) y193) else(none))=some (r1,r2):=yE hy193 H
     have Ny193:=aM hy193;clear hy193;obtain⟨c27b0,H⟩:=iN H;obtain⟨y194,hy194⟩:∃ y_:List Int,y_=(x10_1.set (x37_1:Int).toNat x37_1):=⟨_,rfl⟩;replace H:(Bzy.l0 k1 a0 t177 y192 y194 (wrap64 (x11_1 - (rd y192 x37_1))) l1 (l1.length:Int) (wrap64 (x37_1+1)) y193)=some (r1,r2):=yE hy194 H
     have Ny194:=aM hy194;clear hy194;have H':=aM H;clear H;obtain⟨ad189,e189,hx189_0,p189,q189⟩:=aI HR1.out x37_1;cases e189
     replace hx189_0:=hB HB hx189_0;try go_wp2
     have n0_:=aM (Kd.R_drew HO_8.out);have n1_:=aM (Kd.R_drew HO_10.out);have n2_:=aM (Kd.R_drew HO_189000.out);have n3_:=aM (blk_drew BK188.out);have n4_:=aM (below_drew1 HB.out);clear HO_8;clear HO_10;clear HO_189000;clear BK188;clear HB;have HO_8:=n0_;have HO_10:=n1_;have HO_189000:=n2_;have BK188:=n3_;have HB:=n4_;clear n0_ n1_ n2_ n3_ n4_;refine start_ (n:=15) (S:=fun w'=>w'.cell? ⟨gb188,0,none⟩=some (u189000)) (ds:=[14]) (bA 15 0) (by kernel_rfl) rfl rfl ((blk_cell BK188.out 0).trans rfl) (fun hHeld=>?_);refine with_tabW Bzy.tab9 Bzy.bits9 (fun HT_ HW_=>?_)
     generalize wr.drew=w29 at HO_8 HO_10 HO_189000 BK188 HB hHeld ⊢;refine pS 0 43 HT_ ?_;refine pS 1 44 HT_ ?_;refine pS 3 46 HT_ ?_;refine pS 4 47 HT_ ?_;refine pS 5 48 HT_ ?_;refine pS 6 49 HT_ ?_;refine tU 2 45 HT_ HW_ hHeld ?_;refine oU 7 (some 50) HT_ fun K hK=>?_
     refine goes_ Try.func53 (by kernel_rfl) rfl #[.int .i64 a0,.int .i64 (rd l1 x37_1),.int .i64 t177] (by rfl) rfl rfl mA ?_
     with_reducible refine(Gzb.calls a0 (rd l1 x37_1) t177 t190 t191 _ A22.out).mono ?_
     rintro e w30 ⟨rfl,hb⟩;refine⟨_,rfl,?_⟩;have n0_:=rB HO_8 hb;have n1_:=rB HO_10 hb;have n2_:=rB HO_189000 hb;have n3_:=kb BK188 hb;have n4_:=bB hb;clear HO_8;clear HO_10;clear HO_189000;clear BK188;clear HB;have HO_8:=n0_;have HO_10:=n1_;have HO_189000:=n2_;have BK188:=n3_;have HB:=n4_;clear n0_ n1_ n2_ n3_ n4_;clear hb
     (try clear hb2)
     (try clear hk)
     (try clear hi)
     have p24:0≤(x37_1:Int):=oE aS
     have q24:(x37_1:Int) < ((x8_1.length:Int):Int):=oE aS
     obtain⟨go24,co24,eo24,gb24,gl24,cl24,HG24⟩:=Kd.R_form HO_8.out (by omega)
     (first|cases eo24|(injection eo24 with ea_ en_ ec_;(first|subst ea_|(injection ea_ with ea_;subst ea_));subst ec_;clear en_))
     have GB24:=aM gb24;have GG24:=aM HG24;clear gb24 gl24 HG24;obtain⟨hx24_0,hf24_0⟩:=Kd.R_celln 0 HO_8.out (x37_1:Int) p24 q24;replace p24:=eq_true p24;replace q24:=eq_true q24;have HP31:=Kd.R_putn HO_8.out (x37_1:Int) t190;rw[← Ny192.out] at HP31;have HQ31:=aM HP31;clear HP31;have p26:0≤(x37_1:Int):=oE aS
     have q26:(x37_1:Int) < ((x189000_1.length:Int):Int):=oE aS
     obtain⟨go26,co26,eo26,gb26,gl26,cl26,HG26⟩:=Kd.R_form HO_189000.out (by omega)
     (first|cases eo26|(injection eo26 with ea_ en_ ec_;(first|subst ea_|(injection ea_ with ea_;subst ea_));subst ec_;clear en_))
     have GB26:=aM gb26;have GG26:=aM HG26;clear gb26 gl26 HG26;obtain⟨hx26_0,hf26_0⟩:=Kd.R_celln 0 (Kd.R_far (p:=⟨go24,(x37_1:Int).toNat,none⟩) (Kd.R_mono HO_189000.out (fun k_ hk=>(⟨hk,fun e_=>hk.1 (by rw[e_];rfl)⟩:_∧k_≠go24))) (fun _ hk=>hk.2) (.int .i64 t190)) (x37_1:Int) p26 q26
     replace p26:=eq_true p26;replace q26:=eq_true q26;have HP32:=Kd.R_putn (Kd.R_far (p:=⟨go24,(x37_1:Int).toNat,none⟩) (Kd.R_mono HO_189000.out (fun k_ hk=>(⟨hk,fun e_=>hk.1 (by rw[e_];rfl)⟩:_∧k_≠go24))) (fun _ hk=>hk.2) (.int .i64 t190)) (x37_1:Int) t191
     rw[← Ny193.out] at HP32;have HQ32:=aM HP32;clear HP32;refine hK.out _ _ ((blk_cell BK188.out 0).trans rfl) (fun hHeld=>?_)
     clear hK K;refine nm 50 ?_;refine pS 8 42 HT_ ?_;refine pS 9 51 HT_ ?_;refine pS 10 52 HT_ ?_;refine pS 11 53 HT_ ?_;refine oU 12 none HT_ fun K hK=>?_
     refine skip_ (w1:=?_) (by rfl) rfl ?_ ?_
     rotate_left
     ·go_simp
      rfl
     refine hK.out _ _ (((cell_far (by have h_:=Kd.R_ne HO_8.out BK188.out (by decide);intro e_;exact h_ (congrArg some e_)) _).trans (hHeld))) (fun hHeld=>?_)
     clear hK K;refine pS 13 54 HT_ ?_;refine lU 14 none HT_ fun K hK=>?_
     refine skip_ (w1:=?_) (by rfl) rfl ?_ ?_
     rotate_left
     ·go_simp
      rfl
     refine hK.out _ _ ?_;clear hK K;refine done_ (done_of HT_.out (by kernel_rfl)) ?_
     have n0_:Aside0 (Kd.R (Kd.int .i64) 3 ((w30.setCell ⟨go24,(x37_1:Int).toNat,none⟩ (.int .i64 t190)).setCell ⟨go26,(x37_1:Int).toNat,none⟩ (.int .i64 t191)) w.heap.size (fun k_=>some k_≠(v186:Value).ownBlock∧some k_≠(.slice (some ⟨go26,0,none⟩) x189000_1.length co26:Value).ownBlock) (.slice (some ⟨go24,0,none⟩) x8_1.length co24) y192):=⟨by exact rX (Kd.R_mono (Kd.R_far (p:=⟨go26,(x37_1:Int).toNat,none⟩) (Kd.R_mono HQ31.out (fun k_ hk=>(⟨hk,fun e_=>hk.2 (by rw[e_];rfl)⟩:_∧k_≠go26))) (fun _ hk=>hk.2) (.int .i64 t191)) (fun _ hk=>⟨hk.1.1,hk.1.2⟩))⟩
     have n1_:Aside0 (Kd.R (Kd.int .i64) 3 ((w30.setCell ⟨go24,(x37_1:Int).toNat,none⟩ (.int .i64 t190)).setCell ⟨go26,(x37_1:Int).toNat,none⟩ (.int .i64 t191)) w.heap.size (fun k_=>some k_≠(.slice (some ⟨go24,0,none⟩) x8_1.length co24:Value).ownBlock∧some k_≠(.slice (some ⟨go26,0,none⟩) x189000_1.length co26:Value).ownBlock) v186 x10_1):=⟨by exact rX (Kd.R_mono (Kd.R_far (p:=⟨go26,(x37_1:Int).toNat,none⟩) (Kd.R_far (p:=⟨go24,(x37_1:Int).toNat,none⟩) (Kd.R_mono (Kd.R_mono HO_10.out (fun k_ hk=>(⟨hk,fun e_=>hk.1 (by rw[e_];rfl)⟩:_∧k_≠go24))) (fun k_ hk=>(⟨hk,fun e_=>hk.1.2 (by rw[e_];rfl)⟩:_∧k_≠go26))) (fun _ hk=>hk.1.2) (.int .i64 t190)) (fun _ hk=>hk.2) (.int .i64 t191)) (fun _ hk=>⟨hk.1.1.1,hk.1.1.2⟩))⟩
     have n2_:Aside0 (Kd.R (Kd.int .i64) 3 ((w30.setCell ⟨go24,(x37_1:Int).toNat,none⟩ (.int .i64 t190)).setCell ⟨go26,(x37_1:Int).toNat,none⟩ (.int .i64 t191)) w.heap.size (fun k_=>some k_≠(.slice (some ⟨go24,0,none⟩) x8_1.length co24:Value).ownBlock∧some k_≠(v186:Value).ownBlock) (.slice (some ⟨go26,0,none⟩) x189000_1.length co26) y193):=⟨by exact rX (Kd.R_mono HQ32.out (fun _ hk=>⟨hk.1.1,hk.1.2⟩))⟩
     have n3_:Aside0 (((w30.setCell ⟨go24,(x37_1:Int).toNat,none⟩ (.int .i64 t190)).setCell ⟨go26,(x37_1:Int).toNat,none⟩ (.int .i64 t191)).heap[gb188]?=some (.cells #[.slice (some ⟨go26,0,none⟩) x189000_1.length co26] 34 (0,0))):=⟨by refine bD ?_;refine blk_far ?_ (by have h_:=Kd.R_ne HO_189000.out BK188.out (by decide);intro e_;exact h_ (by rw[e_];rfl)) _;refine bD ?_;refine blk_far ?_ (by have h_:=Kd.R_ne HO_8.out BK188.out (by decide);intro e_;exact h_ (by rw[e_];rfl)) _;(with_reducible repeat(first|refine blk_drewN ?_ _|refine blk_drew ?_|refine blk_alloc ?_ _));exact BK188.out⟩
     have n4_:Aside0 (Below w.heap.size w ((w30.setCell ⟨go24,(x37_1:Int).toNat,none⟩ (.int .i64 t190)).setCell ⟨go26,(x37_1:Int).toNat,none⟩ (.int .i64 t191))):=⟨pB⟩;(try clear HO_8)
     (try clear HO_10)
     (try clear HO_189000)
     (try clear BK188)
     (try clear HB)
     generalize ((w30.setCell ⟨go24,(x37_1:Int).toNat,none⟩ (.int .i64 t190)).setCell ⟨go26,(x37_1:Int).toNat,none⟩ (.int .i64 t191))=w33 at n0_ n1_ n2_ n3_ n4_ ⊢;have HO_8:=n0_;have HO_10:=n1_;have HO_189000:=n2_;have BK188:=n3_;have HB:=n4_;clear n0_ n1_ n2_ n3_ n4_;have p28:0≤(x37_1:Int):=oE aS
     have q28:(x37_1:Int) < ((x10_1.length:Int):Int):=oE aS
     obtain⟨go28,co28,eo28,gb28,gl28,cl28,HG28⟩:=Kd.R_form HO_10.out (by omega)
     (first|cases eo28|(injection eo28 with ea_ en_ ec_;(first|subst ea_|(injection ea_ with ea_;subst ea_));subst ec_;clear en_))
     have GB28:=aM gb28;have GG28:=aM HG28;clear gb28 gl28 HG28;obtain⟨hx28_0,hf28_0⟩:=Kd.R_celln 0 HO_10.out (x37_1:Int) p28 q28;replace p28:=eq_true p28;replace q28:=eq_true q28;obtain⟨hy34_,hz34_⟩:=Kd.R_celln 0 HO_10.out (x37_1:Int) (oE aS) (oE aS)
     have HP34:=Kd.R_putg HO_10.out (x37_1:Int) x37_1;try go_wp2_with (first|((with_reducible refine gate_store (t:=3) (p:=58) rfl ?_);refine store_event (t:=3) (p:=58) (v:=?vo_w35) (w1:=(w33.setCell ⟨go28,(x37_1:Int).toNat,none⟩ (.int .i64 x37_1))) ?hg ?ho ?hn ?hr ?_;(case ho=>rfl);(case hg=>rfl);(case hn=>rfl);(case hr=>first|(go_simp;done)|(go_simp;rfl));intro w35 hw;have hg:w33.grownBy w35 (some go28):=(by rw[hw];exact HP34.2);have hp_:Kd.R (Kd.int .i64) 3 w35 w.heap.size (fun k_=>some k_≠(.slice (some ⟨go24,0,none⟩) x8_1.length co24:Value).ownBlock∧some k_≠(.slice (some ⟨go26,0,none⟩) x189000_1.length co26:Value).ownBlock) (.slice (some ⟨go28,0,none⟩) x10_1.length co28) y194:=(by rw[hw,Ny194.out];exact HP34.1);clear HP34;replace HO_8:=aM (Kd.R_after (v:=(.slice (some ⟨go28,0,none⟩) x10_1.length co28)) (v1:=(.slice (some ⟨go28,0,none⟩) x10_1.length co28)) (ok:=(fun k_=>some k_≠(.slice (some ⟨go26,0,none⟩) x189000_1.length co26:Value).ownBlock)) (rX (Kd.R_mono HO_8.out (fun _ hk=>⟨hk.2,hk.1⟩))) hg (.inl rfl));replace HO_189000:=aM (Kd.R_after (v:=(.slice (some ⟨go28,0,none⟩) x10_1.length co28)) (v1:=(.slice (some ⟨go28,0,none⟩) x10_1.length co28)) (ok:=(fun k_=>some k_≠(.slice (some ⟨go24,0,none⟩) x8_1.length co24:Value).ownBlock)) (rX HO_189000.out) hg (.inl rfl));replace BK188:=aM (blk_grown (g:=gb188) (o:=.cells #[.slice (some ⟨go26,0,none⟩) x189000_1.length co26] 34 (0,0)) (kW BK188) hg (Kd.R_ne HO_10.out BK188.out (by decide)));replace HO_10:=aM (hp_);replace HB:=aM ((by rw[hw];exact below_set (HB.out) GB28.out:Below w.heap.size w w35));clear hg hw hp_;have p195:0≤(x37_1:Int):=oE aS;have q195:x37_1 < (y192.length:Int):=(by have h_:(x37_1:Int) < ((x8_1.length:Int):Int):=oE aS;first|(have e_:=(Kd.R_reads' HO_8.out).1;omega)|simpa only[Ny192.out,List.length_set] using h_);have ql195:((x37_1:Int) < ((x8_1.length:Int):Int))=True:=eq_true (oE aS);obtain⟨ad195,e195,hx195_0⟩:=Kd.at_int (Kd.R_reads' HO_8.out).2.2 x37_1 p195 q195;obtain rfl:(⟨go24,0,none⟩:Addr)=ad195:=(by injection e195);(first|simp only[add_plain] at hx195_0|simp only[add_at] at hx195_0|simp only[Addr.add,Nat.zero_add] at hx195_0|skip);replace p195:=eq_true p195;replace q195:=eq_true q195))
     go_roundg k1
     case measure=>have:=HK1.out;omega
     case rel=>exact⟨(y192),(y194),(wrap64 (x11_1 - (rd y192 x37_1))),(wrap64 (x37_1+1)),(y193),(.slice (some ⟨go26,0,none⟩) x189000_1.length co26),sD,sD,H',⟨by have:=HK1.out;omega⟩,⟨by exact rX (Kd.R_mono HO_8.out (fun _ hk=>⟨hk.2,hk.1⟩))⟩,⟨rX HO_10.out⟩,⟨rX HO_189000.out⟩,⟨by(with_reducible repeat(first|refine blk_drewN ?_ _|refine blk_drew ?_|refine blk_alloc ?_ _));exact BK188.out⟩,⟨pB⟩⟩
    ·rw[if_neg c19] at H;have c19b0:decide (x37_1 < (l1.length:Int))=false:=decide_eq_false c19;clear c19;obtain⟨t196,A36,H⟩:=bT H;(try dsimp only at H);obtain⟨c37,H⟩:=iO H;have c37b0:=eq_true c37;have c37b1:decide (0≤x11_1)=true:=dE c37;clear c37;obtain⟨c38,H⟩:=iO H;have c38b0:=eq_true c38;have c38b1:decide (x11_1≤(x10_1.length:Int))=true:=dE c38;clear c38;obtain⟨y197,hy197⟩:∃ y_:List Int,y_=(t196.take (x11_1:Int).toNat):=⟨_,rfl⟩;replace H:(Bzy.l1 k1 x8_1 y197 (y197.length:Int) 0)=some (r1,r2):=yE hy197 H
     have Ny197:=aM hy197;clear hy197;have H':=aM H;clear H;obtain⟨Ao39,co39,rfl⟩:=Kd.R_slice HO_10.out;obtain⟨Ao40,co40,rfl⟩:=Kd.R_slice HO_189000.out;go_wp2_with (first|((with_reducible refine gc 54 rfl ?_);refine gC 54 (some 68) Try.func54 #[.slice Ao39 x10_1.length co39,.func (.func 55) #[] #[.pointer (some ⟨gb188,0,none⟩)]] ?_;(with_reducible refine(Czp.calls k1 (fun k_=>some k_=(.slice Ao39 x10_1.length co39:Value).ownBlock) (.slice Ao39 x10_1.length co39) x10_1 _ 1 [x189000_1] t196 w _ ?side1 ?side2 ?side3 ?side4 A36.out).mono ?_);(case side1=>repeat(first|(with_reducible first|exact HB.out|apply below_alloc|apply pw_below_drewN|apply below_drew1|refine below_set ?_ GE188.out)|exact HB.out));(case side2=>exact Kd.R_tight rfl HO_10.out);(case side3=>exact Kd.cap_kept (kW BK188) (fun hs_=>(fun e_=>(Kd.R_ne HO_10.out BK188.out (by decide)) e_) hs_) (fun W_ hk_=>⟨_,_,rfl,by exact(Kd.R_reads' HO_189000.out).2.1,(Kd.C_kept_own (HO_189000.out) (fun k_ hk_ hs_=>(hk_.2) hs_)) W_ hk_⟩));(case side4=>exact Nat.le_refl _);rintro e w41 ⟨rfl,hy0,hb,hkp⟩;refine⟨_,rfl,?_⟩;replace HO_8:=aM (Kd.R_mono (ok':=fun k_=>some k_≠(.slice Ao39 x10_1.length co39:Value).ownBlock∧some k_≠(.slice Ao40 x189000_1.length co40:Value).ownBlock) (Kd.R_keptB (HO_8.out) hkp (fun k_ hk_ hs_=>(hk_.1) hs_)) (fun k_ hk_=>⟨hk_.1.1,hk_.1.2⟩));replace HO_189000:=aM (Kd.R_mono (ok':=fun k_=>some k_≠(v180:Value).ownBlock∧some k_≠(.slice Ao39 x10_1.length co39:Value).ownBlock) (Kd.R_keptB (HO_189000.out) hkp (fun k_ hk_ hs_=>(hk_.2) hs_)) (fun k_ hk_=>⟨hk_.1.1,hk_.1.2⟩));replace BK188:=aM (blk_kept (kW BK188) hkp (fun hs_=>(fun e_=>(Kd.R_ne HO_10.out BK188.out (by decide)) e_) hs_));replace HO_10:=aM (Kd.R_reok rfl hy0 (fun k_ e_=>HO_10.out.1 k_ e_));replace HB:=aM (hb);clear hb hkp hy0;have q42:(x11_1:Int)≤((x10_1.length:Int):Int):=oE aS;obtain⟨i042,hi042,_,hsz42,_⟩:=info_parts info3;have hcut42:=cut_to (P:=Try.prog) 34 3 .i64 Try.underlying34 hi042 Ao39 x10_1.length co39 x11_1 (oE aS) q42 (Kd.R_reads' HO_10.out).2.1;have hlx42:=(Kd.R_reads' HO_10.out).1;have hr42:=Kd.R_take (m:=(x11_1:Int).toNat) HO_10.out (by omega);have hy42:y197.length=(x11_1:Int).toNat:=(by rw[Ny197.out,List.length_take];omega);rw[← Ny197.out] at hr42;rw[← hy42] at hr42 hcut42;clear hlx42 hy42 hi042 hsz42 HO_10;have HO199:=aM hr42;clear hr42;replace q42:=eq_true q42))
     go_loopg [73] k1 (fun kq v73 w'=>∃ (x8_2:List Int) (x73_2:Int),v73=.int .i64 x73_2∧Aside0 (Bzy.l1 kq x8_2 y197 (y197.length:Int) x73_2=some (r1,r2))∧Aside0 (kq≤k1)∧Aside0 (Kd.R (Kd.int .i64) 3 w' w.heap.size (fun k_=>some k_≠((.slice Ao39 y197.length co39):Value).ownBlock∧some k_≠((.slice Ao40 x189000_1.length co40):Value).ownBlock) v180 x8_2)∧Aside0 (Kd.R (Kd.int .i64) 3 w' w.heap.size (fun k_=>some k_≠(v180:Value).ownBlock∧some k_≠((.slice Ao40 x189000_1.length co40):Value).ownBlock) (.slice Ao39 y197.length co39) y197)∧Aside0 (Kd.R (Kd.int .i64) 3 w' w.heap.size (fun k_=>some k_≠(v180:Value).ownBlock∧some k_≠((.slice Ao39 y197.length co39):Value).ownBlock) (.slice Ao40 x189000_1.length co40) x189000_1)∧Aside0 (w'.heap[gb188]?=some (.cells #[(.slice Ao40 x189000_1.length co40)] 34 (0,0)))∧Aside0 (Below w.heap.size w w'))
     case atStart=>exact⟨(x8_1),(0),sD,H',⟨Nat.le_refl _⟩,⟨by(with_reducible repeat(first|apply Kd.R_alloc|apply Kd.R_drewN|apply Kd.R_drew));first|exact HO_8.out|exact Kd.R_mono HO_8.out (fun k_ hk_=>by refine⟨?_,?_⟩ <;> first|exact hk_.1|exact hk_.2|exact fun h_=>hk_.1 (h_.trans (own_len _ _ _ _))|exact fun h_=>hk_.2 (h_.trans (own_len _ _ _ _)))⟩,⟨rX HO199.out⟩,⟨by(with_reducible repeat(first|apply Kd.R_alloc|apply Kd.R_drewN|apply Kd.R_drew));first|exact HO_189000.out|exact Kd.R_mono HO_189000.out (fun k_ hk_=>by refine⟨?_,?_⟩ <;> first|exact hk_.1|exact hk_.2|exact fun h_=>hk_.1 (h_.trans (own_len _ _ _ _))|exact fun h_=>hk_.2 (h_.trans (own_len _ _ _ _)))⟩,⟨by(with_reducible repeat(first|refine blk_drewN ?_ _|refine blk_drew ?_|refine blk_alloc ?_ _));exact BK188.out⟩,⟨pB⟩⟩
     case round =>
      clear H';try clear c1
      try clear p1
      try clear q1
      try clear hx1
      try clear c2
      try clear p2
      try clear q2
      try clear hx2
      try clear hf2
      try clear c3
      try clear c4
      try clear c4b0
      try clear c4b1
      try clear q4
      try clear c5
      try clear c5b0
      try clear c5b1
      try clear c6
      try clear c6b0
      try clear c6b1
      try clear p6
      try clear c9
      try clear p18
      try clear q18
      try clear hx18
      try clear c19
      try clear c19b0
      try clear p19
      try clear q19
      try clear hx19
      try clear c20
      try clear c20b0
      try clear c21
      try clear c21b0
      try clear c23
      try clear c23b0
      try clear p24
      try clear q24
      try clear hx24
      try clear hf24
      try clear c25
      try clear c25b0
      try clear p26
      try clear q26
      try clear hx26
      try clear hf26
      try clear c27
      try clear c27b0
      try clear p28
      try clear q28
      try clear hx28
      try clear hf28
      try clear c36
      try clear c37
      try clear c37b0
      try clear c37b1
      try clear c38
      try clear c38b0
      try clear c38b1
      try clear q42
      try clear hx189_0
      try clear hx195_0
      try clear hx24_0
      try clear hx26_0
      try clear hx28_0
      try clear p189
      try clear p195
      try clear p2
      try clear p24
      try clear p26
      try clear p28
      try clear q189
      try clear q195
      try clear q24
      try clear q26
      try clear q28
      try clear q42
      obtain⟨x8_2,x73_2,rfl,HA,HK2,HO_8,HO_71,HO_189000,BK188,HB⟩:=hrel;cases gk with
      | zero=>exact absurd HA.out (by simp [Bzy.l1])
      | succ k2 =>
       have H:=HA.out;clear HA;simp only[Bzy.l1] at H;by_cases c43:x73_2 < (y197.length:Int)
       ·rw[if_pos c43] at H;have c43b0:=dE c43;clear c43;obtain⟨c44b0,H⟩:=iN H;obtain⟨c45b0,H⟩:=iN H;obtain⟨c46b0,H⟩:=iN H;obtain⟨c47b0,H⟩:=iN H;obtain⟨y202,hy202⟩:∃ y_:List Int,y_=(x8_2.set ((rd y197 x73_2):Int).toNat (wrap64 ((rd x8_2 (rd y197 x73_2))+1))):=⟨_,rfl⟩;replace H:(Bzy.l1 k2 y202 y197 (y197.length:Int) (wrap64 (x73_2+1)))=some (r1,r2):=yE hy202 H
        have Ny202:=aM hy202;clear hy202;have H':=aM H;clear H;obtain⟨ad200,e200,hx200_0,p200,q200⟩:=aI (Kd.R_reads' HO_71.out).2.2 x73_2;cases e200;obtain⟨Ao49,co49,rfl⟩:=Kd.R_slice HO_8.out;obtain⟨ad201,e201,hx201_0,p201,q201⟩:=aI (Kd.R_reads' HO_8.out).2.2 (rd y197 x73_2);cases e201;have p48:0≤((rd y197 x73_2):Int):=oE aS
        have q48:((rd y197 x73_2):Int) < ((x8_2.length:Int):Int):=oE aS
        obtain⟨go48,co48,eo48,gb48,gl48,cl48,HG48⟩:=Kd.R_form HO_8.out (by omega)
        (first|cases eo48|(injection eo48 with ea_ en_ ec_;(first|subst ea_|(injection ea_ with ea_;subst ea_));subst ec_;clear en_))
        have GB48:=aM gb48;have GG48:=aM HG48;clear gb48 gl48 HG48;(first|simp only[add_plain] at hx201_0|skip)
        obtain⟨hx48_0,hf48_0⟩:=Kd.R_celln 0 HO_8.out ((rd y197 x73_2):Int) p48 q48;replace p48:=eq_true p48;replace q48:=eq_true q48;have HP50:=Kd.R_putg HO_8.out ((rd y197 x73_2):Int) (wrap64 ((rd x8_2 (rd y197 x73_2))+1));go_wp2_with (first|((with_reducible refine gate_store (t:=3) (p:=82) rfl ?_);refine store_event (t:=3) (p:=82) (v:=?vo_w51) (w1:=(wr.setCell ⟨go48,((rd y197 x73_2):Int).toNat,none⟩ (.int .i64 (wrap64 ((rd x8_2 (rd y197 x73_2))+1))))) ?hg ?ho ?hn ?hr ?_;(case ho=>rfl);(case hg=>rfl);(case hn=>rfl);(case hr=>first|(go_simp;done)|(go_simp;rfl));intro w51 hw;have hg:wr.grownBy w51 (some go48):=(by rw[hw];exact HP50.2);have hp_:Kd.R (Kd.int .i64) 3 w51 w.heap.size (fun k_=>some k_≠(.slice (some ad200) y197.length co39:Value).ownBlock∧some k_≠(.slice Ao40 x189000_1.length co40:Value).ownBlock) (.slice (some ⟨go48,0,none⟩) x8_2.length co49) y202:=(by rw[hw,Ny202.out];exact HP50.1);clear HP50;replace HO_71:=aM (Kd.R_after (v:=(.slice (some ⟨go48,0,none⟩) x8_2.length co49)) (v1:=(.slice (some ⟨go48,0,none⟩) x8_2.length co49)) (ok:=(fun k_=>some k_≠(.slice Ao40 x189000_1.length co40:Value).ownBlock)) (rX (Kd.R_mono HO_71.out (fun _ hk=>⟨hk.2,hk.1⟩))) hg (.inl rfl));replace HO_189000:=aM (Kd.R_after (v:=(.slice (some ⟨go48,0,none⟩) x8_2.length co49)) (v1:=(.slice (some ⟨go48,0,none⟩) x8_2.length co49)) (ok:=(fun k_=>some k_≠(.slice (some ad200) y197.length co39:Value).ownBlock)) (rX (Kd.R_mono HO_189000.out (fun _ hk=>⟨hk.2,hk.1⟩))) hg (.inl rfl));replace BK188:=aM (blk_grown (g:=gb188) (o:=.cells #[.slice Ao40 x189000_1.length co40] 34 (0,0)) (kW BK188) hg (Kd.R_ne HO_8.out BK188.out (by decide)));replace HO_8:=aM (hp_);replace HB:=aM ((by rw[hw];exact below_set (HB.out) GB48.out:Below w.heap.size w w51));clear hg hw hp_))
        go_roundg k2
        case measure=>have:=HK1.out;have:=HK2.out;omega
        case rel=>exact⟨(y202),(wrap64 (x73_2+1)),sD,H',⟨by have:=HK1.out;have:=HK2.out;omega⟩,⟨rX HO_8.out⟩,⟨by exact rX (Kd.R_mono HO_71.out (fun _ hk=>⟨hk.2,hk.1⟩))⟩,⟨by exact rX (Kd.R_mono HO_189000.out (fun _ hk=>⟨hk.2,hk.1⟩))⟩,⟨by(with_reducible repeat(first|refine blk_drewN ?_ _|refine blk_drew ?_|refine blk_alloc ?_ _));exact BK188.out⟩,⟨pB⟩⟩
       ·rw[if_neg c43] at H;have c43b0:decide (x73_2 < (y197.length:Int))=false:=decide_eq_false c43;clear c43;obtain⟨rfl,rfl⟩:=q2 H;go_wp2
        go_ret2
        exact⟨_,eW,by exact rX (Kd.R_mono HO_8.out (fun _ hk=>trivial)),pB⟩
 ·rw[if_neg c4] at H;have c4b0:(t178 == 0)=false:=beq_eq_false_iff_ne.mpr c4;have c4b1:(t178 != 0)=true:=bne_iff_ne.mpr c4;obtain⟨rfl,rfl⟩:=q2 H;have hmf_:∀ (fn:Fn) (first cap:Array Value) (w:World),(Instr.makeFunc fn first cap).run Try.prog w=.ok (.func fn first cap) w:=fun _ _ _ _=>rfl
  go_enter Try.func36,Try.ntmps36
  go_wp2_with (first|((with_reducible refine gc 52 rfl ?_);refine gC 52 (some 19) Try.func52 #[.int .i64 a0,.slice A1 l1.length c1] ?_;(with_reducible refine(Ezz.calls k a0 _ _ l1 t177 t178 _ ?side1 ?side2 A3.out).mono ?_);(case side1=>exact cX HR1.out);(case side2=>exact HC1.out);rintro e w52 ⟨rfl,hb⟩;refine⟨_,rfl,?_⟩;replace HB:=bB hb;clear hb))
  go_ret2
  exact⟨_,eW,nK,pB⟩

end Go.Proofs.Ytnklckihalhlmaa.Print
