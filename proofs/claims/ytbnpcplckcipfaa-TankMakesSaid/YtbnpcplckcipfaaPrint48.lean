import Derived.Test.YtbnpcplckcipfaaPrint0
import Derived.Test.YtbnpcplckcipfaaPrint47
import Derived.Test.YtbnpcplckcipfaaPrint37
import Derived.Test.YtbnpcplckcipfaaPrint42
namespace Go.Proofs.Ytbnpcplckcipfaa.Print
open Go.RowKit Go.Proofs.YtbnpcplckcipfaaW.PrintWords Go.Proofs.YtbnpcplckcipfaaW.PrintLast Go.Proofs.YtbnpcplckcipfaaW.PrintMore
attribute [local go_sem] max2_int min2_int max_two min_two max_three min_three max_four min_four
set_option linter.unusedVariables false
set_option maxRecDepth 100000
set_option maxHeartbeats 8000000
set_option linter.unusedSimpArgs false

mutual
def Azb.j0:Nat→Int→Int→Bool→Option (Int × (List (S33)) × Int)
 | 0,_,_,_=>none
 | k+1,x0,x1,x13=>if x13=true then(some (0,([]:List (S33)),17)) else(if x1 < 1 then(Azb.j1 k x0 x1 true) else(Azb.j1 k x0 x1 (decide (x1 > 1099511627776))))
def Azb.j1:Nat→Int→Int→Bool→Option (Int × (List (S33)) × Int)
 | 0,_,_,_=>none
 | k+1,x0,x1,x20=>if x20=true then(some (0,([]:List (S33)),1)) else(Azb.l0 k x0 0 x1 ([]:List (S33)))
def Azb.l0:Nat→Int→Int→Int→List (S33)→Option (Int × (List (S33)) × Int)
 | 0,_,_,_,_=>none
 | k+1,x0,x7,x799000,x799001=>if x7 < x0 then((Ezp.f k).bind fun bt799=>(if x799001.length < 2513169434916 then(Azb.l0 k x0 (wrap64 (x7+1)) x799000 (x799001 ++ [(⟨bt799.1,bt799.2.1,bt799.2.2⟩:S33)])) else(none))) else(some (x799000,x799001,0))
end
def Azb.f (k:Nat) (a0:Int) (a1:Int):Option (Int × (List (S33)) × Int):=if a0 < 1 then(Azb.j0 k a0 a1 true) else(Azb.j0 k a0 a1 (decide (a0 > 8)))
theorem Azb.mono_l:∀ k,(∀ a6 a7 a8,LeO (Azb.j0 k a6 a7 a8) (Azb.j0 (k+1) a6 a7 a8))∧(∀ a6 a7 a8,LeO (Azb.j1 k a6 a7 a8) (Azb.j1 (k+1) a6 a7 a8))∧(∀ a6 a7 a8 a9,LeO (Azb.l0 k a6 a7 a8 a9) (Azb.l0 (k+1) a6 a7 a8 a9))
 | 0=>⟨fun _ _ _ r h=>by simp [Azb.j0] at h,fun _ _ _ r h=>by simp [Azb.j1] at h,fun _ _ _ _ r h=>by simp [Azb.l0] at h⟩
 | k+1=>by
  obtain⟨ih0,ih1,ih2⟩:=Azb.mono_l k;have i0:=@Ezp.mono;refine⟨?_,?_,?_⟩
  ·intro a6 a7 a8;unfold Azb.j0;exact mM
  ·intro a6 a7 a8;unfold Azb.j1;exact mM
  ·intro a6 a7 a8 a9;unfold Azb.l0;exact mM
theorem Azb.mono:∀ a6 a7 k,LeO (Azb.f k a6 a7) (Azb.f (k+1) a6 a7):=by
 intro a6 a7 k;obtain⟨ih0,ih1,ih2⟩:=Azb.mono_l k;unfold Azb.f;have i0:=@Ezp.mono;exact mM
theorem Azb.calls (k:Nat) (a6:Int) (a7:Int) (a8:Int) (a9:List (S33)) (b4:Int) (w:World) (h:Azb.f k a6 a7=some (a8,a9,b4)) :
  Calls Try.prog 13 #[.int .i64 a6,.int .i64 a7] w fun e w'=>∃ v1_:Value,e=.returned (.tuple #[.agg #[.int .i64 a8,v1_],.int .i64 b4])∧Kd.S k33 33 w' w.heap.size (fun _=>True) v1_ a9∧bw w w':=by
 have hu24:=Try.underlying24;have HB:=aM (Below.refl w.heap.size w);have H:(if a6 < 1 then(Azb.j0 k a6 a7 true) else(Azb.j0 k a6 a7 (decide (a6 > 8))))=some (a8,a9,b4):=h
 clear h;have b5:=aM H;clear H;go_enter Try.func13,Try.ntmps13
 go_upto_region 1 with (first|((with_reducible refine gd 4 rfl ?_);refine bx #[.int .i64 0,.slice none 0 0] 24 ?_;intro b6 hg b7 b8 hb;have b9:=gA w hg;replace HB:=bB hb;clear hb hg))
 (try simp only[Act.put,sA,sZ,sC])
 go_cut [13] (fun d7 wc=>∃ (kq:Nat) (d8:Bool),d7=.bool d8∧Aside0 (Azb.j0 kq a6 a7 d8=some (a8,a9,b4))∧Aside0 (kq≤k)∧Aside0 (wc.heap[b6]?=some (.cells #[.int .i64 0,(.slice none 0 0)] 24 (0,0)))∧Aside0 (bw w wc))
 case first =>
  have H:=b5.out;clear b5;replace H:=iD H;rcases H with⟨d9,H⟩|⟨d9,H⟩
  ·(first|rw[d9]|(simp only[i64_w,i32_w];rw[d9])|skip)
   have H':=aM H;clear H;go_wp2
   go_meet
   case rel=>exact⟨_,(true),sD,H',⟨by first|omega|exact Nat.le_refl _⟩,⟨by exact kW b8⟩,⟨pB⟩⟩
  ·(first|rw[d9]|(simp only[i64_w,i32_w];rw[d9])|skip)
   have H':=aM H;clear H;go_wp2
   go_meet
   case rel=>exact⟨_,(decide (a6 > 8)),sD,H',⟨by first|omega|exact Nat.le_refl _⟩,⟨by exact kW b8⟩,⟨pB⟩⟩
 case rest =>
  clear b5;try clear e6
  obtain⟨kq,d8,rfl,HA,e7,b8,HB⟩:=hcut;cases kq with
  | zero=>exact absurd HA.out (by simp [Azb.j0])
  | succ e8 =>
   have H:=HA.out;clear HA;simp only[Azb.j0] at H;by_cases c6:d8=true
   ·subst c6;rw[if_pos rfl] at H;obtain⟨rfl,rfl,rfl⟩:=q3 H;obtain⟨e9,f4,f5,f6⟩:=bk2 b8;go_wp2
    refine rC b6 24 #[.int .i64 0,.slice none 0 0] (kQ b8) Try.underlying24 ?_
    exact⟨_,eW,by first|exact Kd.S_nil _ _ _ _ _|exact Kd.N_nil _ _ _ _ _|exact Kd.V_nil _ _ _ _ _|exact Kd.Q_nil _ _ _ _ _|exact Kd.R_nil _ _ _ _ _,pB⟩
   ·obtain rfl:=bN c6;rw[if_neg nF] at H
    have f7:=aM H;clear H;go_upto_region 3 with (fail)
    go_cut [20] (fun f8 wc=>∃ (kq:Nat) (f9:Bool),f8=.bool f9∧Aside0 (Azb.j1 kq a6 a7 f9=some (a8,a9,b4))∧Aside0 (kq≤e8)∧Aside0 (wc.heap[b6]?=some (.cells #[.int .i64 0,(.slice none 0 0)] 24 (0,0)))∧Aside0 (bw w wc))
    case first =>
     have H:=f7.out;clear f7;replace H:=iD H;rcases H with⟨g4,H⟩|⟨g4,H⟩
     ·(first|rw[g4]|(simp only[i64_w,i32_w];rw[g4])|skip)
      have H':=aM H;clear H;go_wp2
      go_meet
      case rel=>exact⟨_,(true),sD,H',⟨by have:=e7.out;first|omega|exact Nat.le_refl _⟩,⟨by exact kW b8⟩,⟨pB⟩⟩
     ·(first|rw[g4]|(simp only[i64_w,i32_w];rw[g4])|skip)
      have H':=aM H;clear H;go_wp2
      go_meet
      case rel=>exact⟨_,(decide (a7 > 1099511627776)),sD,H',⟨by have:=e7.out;first|omega|exact Nat.le_refl _⟩,⟨by exact kW b8⟩,⟨pB⟩⟩
    case rest =>
     clear f7;try clear e6
     obtain⟨kq,f9,rfl,HA,g5,b8,HB⟩:=hcut;cases kq with
     | zero=>exact absurd HA.out (by simp [Azb.j1])
     | succ g6 =>
      have H:=HA.out;clear HA;simp only[Azb.j1] at H;by_cases c10:f9=true
      ·subst c10;rw[if_pos rfl] at H;obtain⟨rfl,rfl,rfl⟩:=q3 H;obtain⟨g7,g8,g9,j3⟩:=bk2 b8;go_wp2
       refine rC b6 24 #[.int .i64 0,.slice none 0 0] (kQ b8) Try.underlying24 ?_
       exact⟨_,eW,by first|exact Kd.S_nil _ _ _ _ _|exact Kd.N_nil _ _ _ _ _|exact Kd.V_nil _ _ _ _ _|exact Kd.Q_nil _ _ _ _ _|exact Kd.R_nil _ _ _ _ _,pB⟩
      ·obtain rfl:=bN c10;rw[if_neg nF] at H
       have H':=aM H;clear H;go_wp2_with (first|((with_reducible refine gd 6 rfl ?_);refine bx #[.int .i64 0,.slice none 0 0] 24 ?_;intro j4 hg j5 j6 hb;have j7:=gA w hg;have j9:=nl hg b8;have l5:=ng hg b8;replace b8:=kb b8 hb;replace HB:=bB hb;clear hb hg;have l6:=l5.out;have l7:=j9.out;obtain⟨l8,l9,m0,m4⟩:=bk2 j6))
       go_loopg [7] g6 (fun kq m5 w'=>∃ (m6:Int) (m7:List (S33)) (u799001:Value),m5=.int .i64 m6∧Aside0 (Azb.l0 kq a6 m6 a7 m7=some (a8,a9,b4))∧Aside0 (kq≤g6)∧Aside0 (Kd.S k33 33 w' w.heap.size (fun _=>True) u799001 m7)∧Aside0 (w'.heap[b6]?=some (.cells #[.int .i64 0,(.slice none 0 0)] 24 (0,0)))∧Aside0 (w'.heap[j4]?=some (.cells #[.int .i64 a7,u799001] 24 (0,0)))∧Aside0 (bw w w'))
       case atStart=>exact⟨(0),(([]:List (S33))),(.slice none 0 0),sD,H',⟨Nat.le_refl _⟩,⟨by first|exact Kd.S_nil _ _ _ _ _|exact Kd.N_nil _ _ _ _ _|exact Kd.V_nil _ _ _ _ _|exact Kd.Q_nil _ _ _ _ _|exact Kd.R_nil _ _ _ _ _⟩,⟨by exact kf b8 j9⟩,⟨by exact kQ j6⟩,⟨pB⟩⟩
       case round =>
        clear H';try clear e6
        obtain⟨m6,m7,u799001,rfl,HA,m8,m9,b8,j6,HB⟩:=hrel;cases gk with
        | zero=>exact absurd HA.out (by simp [Azb.l0])
        | succ k3 =>
         have H:=HA.out;clear HA;simp only[Azb.l0] at H;replace H:=iD H;rcases H with⟨n7,H⟩|⟨n7,H⟩
         ·obtain⟨⟨n8,n9,o0⟩,o8,H⟩:=bT H;(try dsimp only at H);obtain⟨o9,H⟩:=iO H;have LMc17:=aM o9;clear o9;obtain⟨p0,p4⟩:∃ y_:List (S33),y_=(m7 ++ [(⟨n8,n9,o0⟩:S33)]):=⟨_,rfl⟩;replace H:(Azb.l0 k3 a6 (wrap64 (m6+1)) a7 p0)=some (a8,a9,b4):=yE p4 H
          have p7:=aM p4;clear p4;have H':=aM H;clear H;try go_wp2
          have n0_:=aM (Kd.S_drew m9.out);have n1_:=aM (blk_drew b8.out);have n2_:=aM (blk_drew j6.out);have n3_:=aM (below_drew1 HB.out);clear m9 b8 j6 HB;have m9:=n0_;have b8:=n1_;have j6:=n2_;have HB:=n3_;clear n0_ n1_ n2_ n3_;refine start_ (n:=7) (S:=fun w'=>w'.cell? ⟨j4,0,none⟩=some (.int .i64 a7)∧w'.cell? ⟨j4,1,none⟩=some (u799001)) (ds:=[6]) (bA 7 0) (by kernel_rfl) rfl rfl ⟨(blk_cell j6.out 0).trans rfl,(blk_cell j6.out 1).trans rfl⟩ (fun hHeld=>?_)
          generalize wr.drew=p9 at m9 b8 j6 HB hHeld ⊢;refine pV 0 29 (bA 7 1) ?_;refine tV 1 30 (bA 7 3) hHeld ?_;refine one_ (i:=2) (N:=some 31) (bA 7 7) rfl rfl (by kernel_rfl) (by decide) (fun K hK=>?_)
          refine goes_ Try.func35 (by kernel_rfl) rfl #[] (by rfl) rfl rfl mA ?_
          with_reducible refine(Ezp.calls k3  n8 n9 o0 _ o8.out).mono ?_
          rintro e r7 ⟨r8,r9,rfl,t4,t5,hb⟩;refine⟨_,rfl,?_⟩;have n0_:=sO m9 hb t4 t5
          have n1_:=rL t4;have n2_:=rL t5;have n3_:=kb b8 hb;have n4_:=kb j6 hb;have n5_:=bB hb;clear m9 b8 j6 HB;have m9:=n0_;have t6:=n1_;have t7:=n2_;have b8:=n3_;have j6:=n4_;have HB:=n5_;clear n0_ n1_ n2_ n3_ n4_ n5_;(try clear hb)
          (try clear t8)
          (try clear hk)
          (try clear hi)
          (try clear t4)
          (try clear t5)
          obtain⟨t9,z3,z4⟩:=Kd.R_slice t6.out;(first|subst z4|(injection z4 with f1_ f2_ f3_;have f4_:=f1_.symm;have f5_:=f3_.symm;clear f1_ f2_ f3_;subst f4_;subst f5_))
          obtain⟨z5,z6,z7⟩:=Kd.R_slice t7.out;(first|subst z7|(injection z7 with f1_ f2_ f3_;have f4_:=f1_.symm;have f5_:=f3_.symm;clear f1_ f2_ f3_;subst f4_;subst f5_))
          refine hK.out _ _ ⟨(blk_cell j6.out 0).trans rfl,(blk_cell j6.out 1).trans rfl⟩ (fun hHeld=>?_)
          clear hK K;refine nm 31 ?_;refine one_ (i:=3) (N:=some 32) (bA 7 15) rfl rfl (by kernel_rfl) (by decide) (fun K hK=>?_)
          refine value_ (w1:=?_) (v:=?_) (by rfl) rfl ?_ ?_
          rotate_left 2
          ·go_simp
           constructor
           ·rfl
           ·rfl
          refine hK.out _ _ ⟨(blk_cell (blk_alloc j6.out _) 0).trans rfl,(blk_cell (blk_alloc j6.out _) 1).trans rfl⟩ (fun hHeld=>?_)
          clear hK K;refine nm 32 ?_;refine one_ (i:=4) (N:=some 33) (bA 7 31) rfl rfl (by kernel_rfl) (by decide) (fun K hK=>?_)
          refine Kd.S_append_step k33 (w0:=w) w.heap.size (by rfl) (.tmp 30) (.tmp 32) 22 33 (.agg #[(.bool false),(.slice none 0 0),(.slice none 0 0)]) 56 rfl Try.underlying22 info33 rfl (by decide) (by omega) u799001 m7 (⟨n8,n9,o0⟩:S33) [.bool n8,.slice t9 n9.length z3,.slice z5 o0.length z6] (fun _=>True) (fun k_=>some k_=(.slice t9 n9.length z3:Value).ownBlock∨some k_=(.slice z5 o0.length z6:Value).ownBlock) rfl rfl ?aP (fun k_ hk_=>hk_.elim (fun h_=>((Kd.R_mono (ok':=fun k_=>((fun _=>True)) k_∧oV u799001 k_) (Kd.R_apart' (t6.out) (Kd.S_typed m9.out) (by decide)) (fun k_ hk=>⟨trivial,hk.2⟩))).1 k_ h_.symm) (fun h_=>((Kd.R_mono (ok':=fun k_=>((fun _=>True)) k_∧oV u799001 k_) (Kd.R_apart' (t7.out) (Kd.S_typed m9.out) (by decide)) (fun k_ hk=>⟨trivial,hk.2⟩))).1 k_ h_.symm)) ?aF ?aO ?aB ?aS ?aL ?_
          (case aP=>exact k33_mkM _ _ _ (⟨n8,n9,o0⟩:S33) (Kd.R_mono (Kd.R_tight rfl (Kd.R_mono (ok':=fun k_=>((fun _=>True)) k_∧oV u799001 k_) (Kd.R_apart' (t6.out) (Kd.S_typed m9.out) (by decide)) (fun k_ hk=>⟨trivial,hk.2⟩))) (fun _ h_=>Or.inl h_)) (Kd.R_mono (Kd.R_tight rfl (Kd.R_mono (ok':=fun k_=>((fun _=>True)) k_∧oV u799001 k_) (Kd.R_apart' (t7.out) (Kd.S_typed m9.out) (by decide)) (fun k_ hk=>⟨trivial,hk.2⟩))) (fun _ h_=>Or.inr (h_))))
          (case aB=>exact pB)
          (case aF=>exact(fun _ _=>trivial))
          (case aO=>exact(by exact sX (Kd.S_mono m9.out (fun k_ hk=>⟨trivial,fun e_=>e_.elim (fun h_=>hk.1.2 h_) (fun h_=>hk.2 h_)⟩))))
          (case aS=>exact(below_size pB))
          (case aL=>have:=LMc17.out;omega)
          intro z8 z9 ho hb hg hat;rw[← p7.out] at ho;have n0_:=aM (blk_grown (g:=b6) (o:=.cells #[.int .i64 0,.slice none 0 0] 24 (0,0)) (kW b8) hg (Kd.S_ne m9.out b8.out (by decide)))
          have n1_:=aM (blk_grown (g:=j4) (o:=.cells #[.int .i64 a7,u799001] 24 (0,0)) (kW j6) hg (Kd.S_ne m9.out j6.out (by decide)))
          have n2_:=aM (hb);have n3_:=aM (ho);clear b8 j6 HB m9 t6 t7;have b8:=n0_;have j6:=n1_;have HB:=n2_;have B0:=n3_;clear n0_ n1_ n2_ n3_ ho hb hg hat;obtain⟨B5,B9,C0⟩:=Kd.S_slice B0.out;(first|subst C0|(injection C0 with f1_ f2_ f3_;have f4_:=f1_.symm;have f5_:=f3_.symm;clear f1_ f2_ f3_;subst f4_;subst f5_))
          refine hK.out _ _ ⟨(blk_cell j6.out 0).trans rfl,(blk_cell j6.out 1).trans rfl⟩ (fun hHeld=>?_)
          clear hK K;refine nm 33 ?_;refine pV 5 34 (bA 7 63) ?_;refine last_ (i:=6) (N:=none) (bA 7 127) rfl rfl (by kernel_rfl) (by decide) (fun K hK=>?_)
          have C1:z9.cell? ⟨j4,1,none⟩=some (u799001):=(blk_cell j6.out 1).trans rfl;have hfs24:=blk_frozen j6.out 1;have hns24_0:=j9.out;have hms24_0:=l5.out;refine skip_ (w1:=?_) (by rfl) rfl ?_ ?_
          rotate_left
          ·go_simp
           rfl
          refine hK.out _ _ ?_;clear hK K;refine done_ (by kernel_rfl) ?_
          try go_wp2
          go_roundg k3
          case measure=>have:=e7.out;have:=g5.out;have:=m8.out;omega
          case rel=>exact⟨(wrap64 (m6+1)),(p0),(.slice B5 p0.length B9),sD,H',⟨by have:=e7.out;have:=g5.out;have:=m8.out;omega⟩,⟨by exact sX (Kd.S_mono (Kd.S_far (p:=⟨j4,1,none⟩) (Kd.S_types B0.out j6.out (by decide)) (fun _ hk=>hk.2) (.slice B5 p0.length B9)) (fun _ hk=>trivial))⟩,⟨by exact kf b8 j9⟩,⟨by exact kQ j6⟩,⟨pB⟩⟩
         ·obtain⟨rfl,rfl,rfl⟩:=q3 H;have C2:=l5.out;have C3:=j9.out;obtain⟨C4,C6,C7,C8⟩:=bk2 j6;obtain⟨C9,D2,D3,D4⟩:=bk2 b8;obtain⟨D5,D6,rfl⟩:=Kd.S_slice m9.out;go_wp2
          refine rC b6 24 #[.int .i64 a7,.slice D5 m7.length D6] (kQ b8) Try.underlying24 ?_
          exact⟨_,eW,by exact sX (Kd.S_mono (Kd.S_far (p:=⟨b6,1,none⟩) (Kd.S_far (p:=⟨b6,0,none⟩) (Kd.S_types m9.out b8.out (by decide)) (fun _ hk=>hk.2) (.int .i64 a7)) (fun _ hk=>hk.2) (.slice D5 m7.length D6)) (fun _ hk=>trivial)),pB⟩


def Czq.l0:Nat→List Int→List Int→Int→Option (Bool)
 | 0,_,_,_=>none
 | k+1,x0,x1,x5=>if x5 < (x0.length:Int) then(if 0≤x5 then(if x5 < (x1.length:Int) then(if(rd x0 x5)=(rd x1 x5) then(Czq.l0 k x0 x1 (wrap64 (x5+1))) else(some false)) else(none)) else(none)) else(some true)
def Czq.f (k:Nat) (l0:List Int) (l1:List Int):Option (Bool):=if(l0.length:Int)=(l1.length:Int) then(Czq.l0 k l0 l1 0) else(some false)
theorem Czq.mono_l:∀ k,(∀ a6 a7 a8,LeO (Czq.l0 k a6 a7 a8) (Czq.l0 (k+1) a6 a7 a8))
 | 0=>fun _ _ _ r h=>by simp [Czq.l0] at h
 | k+1=>by
  have ih0:=Czq.mono_l k
  ·intro a6 a7 a8;unfold Czq.l0;exact mM
theorem Czq.mono:∀ a6 a7 k,LeO (Czq.f k a6 a7) (Czq.f (k+1) a6 a7):=by
 intro a6 a7 k;have ih0:=Czq.mono_l k;unfold Czq.f;exact mM
theorem Czq.calls (k:Nat) (a6:Option Addr) (a7:Nat) (l0:List Int) (a8:Option Addr) (a9:Nat) (l1:List Int) (r:Bool) (w:World) (b4:cI w a6 l0) (b5:l0.length≤a7) (b6:cI w a8 l1) (b7:l1.length≤a9) (h:Czq.f k l0 l1=some r) :
  Calls Try.prog 72 #[.slice a6 l0.length a7,.slice a8 l1.length a9] w fun e w'=>e=.returned (.bool r)∧Drawn0 w w':=by
 have b8:=aM b4;have b9:=aM b5;clear b4 b5;have d6:=aM b6;have d7:=aM b7;clear b6 b7;have H:(if(l0.length:Int)=(l1.length:Int) then(Czq.l0 k l0 l1 0) else(some false))=some r:=h
 clear h;by_cases c3:(l0.length:Int)=(l1.length:Int)
 ·rw[if_pos c3] at H;obtain⟨d8,d9⟩:=bE c3;have e6:(l0.length == l1.length)=true:=by first|simpa using c3|(simp at c3 ⊢;omega)
  clear c3;have H':=aM H;clear H;go_enter Try.func72,Try.ntmps72
  go_wp2
  repeat(go_quiet (fail);try go_wp2)
  go_loopg [5] k (fun kq e7 w'=>∃ (e8:Int),e7=.int .i64 e8∧Aside0 (Czq.l0 kq l0 l1 e8=some r)∧Aside0 (kq≤k)∧Drawn0 w w')
  case atStart=>exact⟨(0),sD,H',⟨Nat.le_refl _⟩,dR⟩
  case round =>
   clear H';try clear a9
   obtain⟨e8,rfl,HA,e9,⟨f4,rfl⟩⟩:=hrel;cases gk with
   | zero=>exact absurd HA.out (by simp [Czq.l0])
   | succ k1 =>
    have H:=HA.out;clear HA;simp only[Czq.l0] at H;replace H:=iD H;rcases H with⟨f5,H⟩|⟨f5,H⟩
    ·obtain⟨f6,H⟩:=iN H;obtain⟨f7,H⟩:=iN H;replace H:=iE H;rcases H with⟨f8,f9,H⟩|⟨c7,f8,f9,H⟩
     ·have H':=aM H;clear H;obtain⟨g4,g5,g6,g7,g8⟩:=aI b8.out e8;cases g5;obtain⟨g9,j3,j4,j5,j6⟩:=aI d6.out e8;cases j3;go_wp2
      repeat(go_quiet (fail);try go_wp2)
      go_roundg k1
      case measure=>have:=e9.out;omega
      case rel=>exact⟨(wrap64 (e8+1)),sD,H',⟨by have:=e9.out;omega⟩,dR⟩
     ·obtain rfl:=Option.some.inj H;obtain⟨g4,g5,g6,g7,g8⟩:=aI b8.out e8;cases g5;obtain⟨g9,j3,j4,j5,j6⟩:=aI d6.out e8;cases j3;go_wp2
      repeat(go_quiet (fail);try go_wp2)
      go_ret
      exact⟨sD,dR⟩
    ·obtain rfl:=Option.some.inj H;go_wp2
     repeat(go_quiet (fail);try go_wp2)
     go_ret
     exact⟨sD,dR⟩
 ·rw[if_neg c3] at H;obtain⟨d8,d9⟩:=bI c3;have e6:(l0.length == l1.length)=false:=by first|simpa using c3|(simp at c3 ⊢;omega)
  obtain rfl:=Option.some.inj H;go_enter Try.func72,Try.ntmps72
  go_wp2
  repeat(go_quiet (fail);try go_wp2)
  go_ret
  exact⟨sD,dR⟩


def Azw.j0:Nat→Bool→Bool→List Int→List Int→Option (Bool)
 | 0,_,_,_,_=>none
 | k+1,x30,x812000,x812001,x812002=>if x30=true then(some false) else((Azm.f k x812001 x812002).bind fun bt814=>(if bt814.2=0 then((Czq.f k bt814.1 (([1]:List Int))).bind fun t821=>(some t821)) else(some false)))
def Azw.f (k:Nat) (a0_0:Bool) (l0_1:List Int) (l0_2:List Int):Option (Bool):=(Azz.f k l0_1).bind fun t812=>(if t812=true then((Azz.f k l0_2).bind fun t813=>(if t813=true then(if(l0_2.length:Int)=0 then(Azw.j0 k true a0_0 l0_1 l0_2) else(if(l0_1.length:Int)=0 then(Azw.j0 k a0_0 a0_0 l0_1 l0_2) else(Azw.j0 k false a0_0 l0_1 l0_2))) else(Azw.j0 k true a0_0 l0_1 l0_2))) else(Azw.j0 k true a0_0 l0_1 l0_2))
theorem Azw.mono_l:∀ k,(∀ a6 a7 a8 a9,LeO (Azw.j0 k a6 a7 a8 a9) (Azw.j0 (k+1) a6 a7 a8 a9))
 | 0=>fun _ _ _ _ r h=>by simp [Azw.j0] at h
 | k+1=>by
  have ih0:=Azw.mono_l k
  ·intro a6 a7 a8 a9;unfold Azw.j0;have i0:=@Azm.mono;have i1:=@Azz.mono;have i2:=@Czq.mono;exact mM
theorem Azw.mono:∀ a6 a7 a8 k,LeO (Azw.f k a6 a7 a8) (Azw.f (k+1) a6 a7 a8):=by
 intro a6 a7 a8 k;have ih0:=Azw.mono_l k;unfold Azw.f;have i0:=@Azm.mono;have i1:=@Azz.mono;have i2:=@Czq.mono;exact mM
theorem Azw.calls (k:Nat) (a6:Bool) (a7:Option Addr) (a8:Nat) (a9:List Int) (b4:Option Addr) (b5:Nat) (b6:List Int) (r:Bool) (w:World) (b7:cI w a7 a9) (b8:a9.length≤a8) (b9:cI w b4 b6) (d6:b6.length≤b5) (h:Azw.f k a6 a9 b6=some r) :
  Calls Try.prog 39 #[.agg #[.bool a6,.slice a7 a9.length a8,.slice b4 b6.length b5]] w fun e w'=>e=.returned (.bool r)∧bw w w':=by
 have hu33:=Try.underlying33;have d7:=aM b7;have d8:=aM b8;clear b7 b8;have d9:=aM b9;have e6:=aM d6;clear b9 d6;have HB:=aM (Below.refl w.heap.size w);have H:((Azz.f k a9).bind fun e7=>(if e7=true then((Azz.f k b6).bind fun e8=>(if e8=true then(if(b6.length:Int)=0 then(Azw.j0 k true a6 a9 b6) else(if(a9.length:Int)=0 then(Azw.j0 k a6 a6 a9 b6) else(Azw.j0 k false a6 a9 b6))) else(Azw.j0 k true a6 a9 b6))) else(Azw.j0 k true a6 a9 b6)))=some r:=h
 clear h;have e9:=aM H;clear H;go_enter Try.func39,Try.ntmps39
 go_upto_region 1 with (first|((with_reducible refine gd 1 rfl ?_);refine bxg #[.bool a6,.slice a7 a9.length a8,.slice b4 b6.length b5] 33 ?_;intro f4 hg f5 f6 hb;have f7:=gA w hg;replace HB:=bB hb;clear hb hg))
 (try simp only[Act.put,sA,sZ,sC])
 go_cut [30] (fun f9 wc=>∃ (kq:Nat) (g4:Bool),f9=.bool g4∧Aside0 (Azw.j0 kq g4 a6 a9 b6=some r)∧Aside0 (kq≤k)∧Aside0 (wc.heap[f4]?=some (.cells #[.bool a6,(.slice a7 a9.length a8),(.slice b4 b6.length b5)] 33 (0,0)))∧Aside0 (bw w wc))
 case first =>
  have H:=e9.out;clear e9;obtain⟨e7,g5,H⟩:=bT H;(try dsimp only at H);by_cases c5:e7=true
  ·subst c5;rw[if_pos rfl] at H;obtain⟨e8,g6,H⟩:=bT H;(try dsimp only at H);by_cases c7:e8=true
   ·subst c7;rw[if_pos rfl] at H;replace H:=iE H;rcases H with⟨g7,g8,H⟩|⟨c8,g7,g8,H⟩
    ·(first|rw[g7]|(simp only[i64_w,i32_w];rw[g7])|skip)
     have H':=aM H;clear H;obtain⟨g9,j3,j4,j5,j6,j7⟩:=bk3 f6;go_wp2_with (first|((with_reducible refine gc 70 rfl ?_);refine gC 70 (some 7) Try.func70 #[.slice a7 a9.length a8] ?_;(with_reducible refine(Azz.calls k _ _ a9 true _ ?_ ?_ g5.out).mono ?_);exact cB d7;exact d8.out;rintro e w' ⟨rfl,⟨nd,rfl⟩⟩;refine⟨_,rfl,?_⟩)|(go_at_call 70;(with_reducible refine(Azz.calls k _ _ b6 true _ ?_ ?_ g6.out).mono ?_);exact cB d9;exact e6.out;rintro e w' ⟨rfl,⟨nd,rfl⟩⟩))
     go_meet
     case rel=>exact⟨_,(true),sD,H',⟨by first|omega|exact Nat.le_refl _⟩,⟨by exact kW f6⟩,⟨pB⟩⟩
    ·have j8:¬ (b6=[]):=fun h_=>c8 (by rw[h_];rfl)
     (first|rw[g7]|(simp only[i64_w,i32_w];rw[g7])|skip)
     replace H:=iE H;rcases H with⟨j9,l5,H⟩|⟨c10,j9,l5,H⟩
     ·have H':=aM H;clear H;obtain⟨l6,l7,l8,l9,m0,m4⟩:=bk3 f6;go_wp2_with (first|((with_reducible refine gc 70 rfl ?_);refine gC 70 (some 7) Try.func70 #[.slice a7 a9.length a8] ?_;(with_reducible refine(Azz.calls k _ _ a9 true _ ?_ ?_ g5.out).mono ?_);exact cB d7;exact d8.out;rintro e w' ⟨rfl,⟨nd,rfl⟩⟩;refine⟨_,rfl,?_⟩)|(go_at_call 70;(with_reducible refine(Azz.calls k _ _ b6 true _ ?_ ?_ g6.out).mono ?_);exact cB d9;exact e6.out;rintro e w' ⟨rfl,⟨nd,rfl⟩⟩))
      go_meet
      case rel=>exact⟨_,(a6),sD,H',⟨by first|omega|exact Nat.le_refl _⟩,⟨by exact kW f6⟩,⟨pB⟩⟩
     ·have m5:¬ (a9=[]):=fun h_=>c10 (by rw[h_];rfl)
      have H':=aM H;clear H;obtain⟨m6,m7,m8,m9,n0,n7⟩:=bk3 f6;go_wp2_with (first|((with_reducible refine gc 70 rfl ?_);refine gC 70 (some 7) Try.func70 #[.slice a7 a9.length a8] ?_;(with_reducible refine(Azz.calls k _ _ a9 true _ ?_ ?_ g5.out).mono ?_);exact cB d7;exact d8.out;rintro e w' ⟨rfl,⟨nd,rfl⟩⟩;refine⟨_,rfl,?_⟩)|(go_at_call 70;(with_reducible refine(Azz.calls k _ _ b6 true _ ?_ ?_ g6.out).mono ?_);exact cB d9;exact e6.out;rintro e w' ⟨rfl,⟨nd,rfl⟩⟩))
      go_meet
      case rel=>exact⟨_,(false),sD,H',⟨by first|omega|exact Nat.le_refl _⟩,⟨by exact kW f6⟩,⟨pB⟩⟩
   ·obtain rfl:=bN c7;rw[if_neg nF] at H
    have H':=aM H;clear H;obtain⟨n8,n9,o0,o8,o9,p0⟩:=bk3 f6;go_wp2_with (first|((with_reducible refine gc 70 rfl ?_);refine gC 70 (some 7) Try.func70 #[.slice a7 a9.length a8] ?_;(with_reducible refine(Azz.calls k _ _ a9 true _ ?_ ?_ g5.out).mono ?_);exact cB d7;exact d8.out;rintro e w' ⟨rfl,⟨nd,rfl⟩⟩;refine⟨_,rfl,?_⟩)|(go_at_call 70;(with_reducible refine(Azz.calls k _ _ b6 false _ ?_ ?_ g6.out).mono ?_);exact cB d9;exact e6.out;rintro e w' ⟨rfl,⟨nd,rfl⟩⟩))
    go_meet
    case rel=>exact⟨_,(true),sD,H',⟨by first|omega|exact Nat.le_refl _⟩,⟨by exact kW f6⟩,⟨pB⟩⟩
  ·obtain rfl:=bN c5;rw[if_neg nF] at H
   have H':=aM H;clear H;obtain⟨p4,p7,p9,r5,r6,r7⟩:=bk3 f6;go_wp2_with (first|((with_reducible refine gc 70 rfl ?_);refine gC 70 (some 7) Try.func70 #[.slice a7 a9.length a8] ?_;(with_reducible refine(Azz.calls k _ _ a9 false _ ?_ ?_ g5.out).mono ?_);exact cB d7;exact d8.out;rintro e w' ⟨rfl,⟨nd,rfl⟩⟩;refine⟨_,rfl,?_⟩))
   go_meet
   case rel=>exact⟨_,(true),sD,H',⟨by first|omega|exact Nat.le_refl _⟩,⟨by exact kW f6⟩,⟨pB⟩⟩
 case rest =>
  clear e9;try clear r8
  obtain⟨kq,g4,rfl,HA,r9,f6,HB⟩:=hcut;cases kq with
  | zero=>exact absurd HA.out (by simp [Azw.j0])
  | succ t4 =>
   have H:=HA.out;clear HA;simp only[Azw.j0] at H;by_cases t5:g4=true
   ·subst t5;rw[if_pos rfl] at H;obtain rfl:=Option.some.inj H;go_wp2
    go_ret
    exact⟨eW,pB⟩
   ·obtain rfl:=bN t5;rw[if_neg nF] at H
    obtain⟨⟨t6,t7⟩,t8,H⟩:=bT H;(try dsimp only at H);replace H:=iE H;rcases H with⟨z3,z4,H⟩|⟨t9,z3,z4,H⟩
    ·obtain⟨z5,z6⟩:∃ y_:List Int,y_=(([1]:List Int)):=⟨_,rfl⟩;replace H:((Czq.f t4 t6 z5).bind fun z7=>(some z7))=some r:=yE z6 H
     have z8:=aM z6;clear z6;replace H:=bS H;obtain⟨z7,z9,H⟩:=H;replace H:(some z7)=some r:=H;have B0:=aM z9;clear z9;obtain rfl:=Option.some.inj H;obtain⟨B5,B9,C0,C1,C2,C3⟩:=bk3 f6;go_wp2_with (first|((with_reducible refine gc 71 rfl ?_);refine gC 71 (some 36) Try.func71 #[.slice a7 a9.length a8,.slice b4 b6.length b5] ?_;(with_reducible refine(Azm.calls t4 _ _ a9 (fun k_=>k_ < w.heap.size) _ _ b6 t6 t7 _ ?_ ?_ ?_ t8.out).mono ?_);exact cB d7;exact d8.out;exact Kd.V_mk e6.out (Kd.F_below (Kd.C_F (Kd.heap_int .i64) d9.out) pB);rintro e C4 ⟨C6,rfl,C7,hb⟩;refine⟨_,rfl,?_⟩;have C8:=rL (Kd.R_mono (ok':=fun k_=>True) C7 (fun _ hk_=>trivial));replace f6:=kb f6 hb;replace HB:=bB hb;clear hb C7)|((with_reducible refine gd 43 rfl ?_);refine iLg 43 [1] ?_;intro C9 D2 D3 hb;replace D3:=rY z8 D3;have D4:=rL (rn D3 C8);replace C8:=rE C8 D3 hb;replace f6:=kb f6 hb;replace HB:=bB hb;clear hb D3;obtain⟨D5,D6,rfl⟩:=Kd.R_slice C8.out;obtain⟨D7,D8,rfl⟩:=Kd.R_slice D4.out)|(go_at_call 72;(with_reducible refine(Czq.calls t4 _ _ t6 _ _ z5 z7 _ ?_ ?_ ?_ ?_ B0.out).mono ?_);exact cR C8;exact lR C8;exact cR D4;exact lR D4;rintro e w' ⟨rfl,⟨nd,rfl⟩⟩))
     go_ret
     exact⟨eW,pB⟩
    ·obtain rfl:=Option.some.inj H;obtain⟨D9,E0,E1,E2,E3,E4⟩:=bk3 f6;go_wp2_with (first|((with_reducible refine gc 71 rfl ?_);refine gC 71 (some 36) Try.func71 #[.slice a7 a9.length a8,.slice b4 b6.length b5] ?_;(with_reducible refine(Azm.calls t4 _ _ a9 (fun k_=>k_ < w.heap.size) _ _ b6 t6 t7 _ ?_ ?_ ?_ t8.out).mono ?_);exact cB d7;exact d8.out;exact Kd.V_mk e6.out (Kd.F_below (Kd.C_F (Kd.heap_int .i64) d9.out) pB);rintro e E5 ⟨C6,rfl,C7,hb⟩;refine⟨_,rfl,?_⟩;have C8:=rL (Kd.R_mono (ok':=fun k_=>True) C7 (fun _ hk_=>trivial));replace f6:=kb f6 hb;replace HB:=bB hb;clear hb C7))
     go_ret
     exact⟨eW,pB⟩

def Bzk.j0:Nat→List Int→List Int→Bool→Option (List Int × Int)
 | 0,_,_,_=>none
 | k+1,x0,x1,x13=>if x13=true then(some (([]:List Int),3)) else((Azj.f k x0 x1).bind fun t824=>((Bzz.f k t824).bind fun bt827=>(some (bt827.1,bt827.2))))
def Bzk.f (k:Nat) (l0:List Int) (l1:List Int):Option (List Int × Int):=(Azz.f k l0).bind fun t822=>(if t822=true then((Azz.f k l1).bind fun t823=>(Bzk.j0 k l0 l1 (!t823))) else(Bzk.j0 k l0 l1 true))
theorem Bzk.mono_l:∀ k,(∀ a6 a7 a8,LeO (Bzk.j0 k a6 a7 a8) (Bzk.j0 (k+1) a6 a7 a8))
 | 0=>fun _ _ _ r h=>by simp [Bzk.j0] at h
 | k+1=>by
  have ih0:=Bzk.mono_l k
  ·intro a6 a7 a8;unfold Bzk.j0;have i0:=@Azz.mono;have i1:=@Bzz.mono;have i2:=@Azj.mono;exact mM
theorem Bzk.mono:∀ a6 a7 k,LeO (Bzk.f k a6 a7) (Bzk.f (k+1) a6 a7):=by
 intro a6 a7 k;have ih0:=Bzk.mono_l k;unfold Bzk.f;have i0:=@Azz.mono;have i1:=@Bzz.mono;have i2:=@Azj.mono;exact mM
theorem Bzk.calls (k:Nat) (a6:Option Addr) (a7:Nat) (l0:List Int) (a8:Option Addr) (a9:Nat) (l1:List Int) (b4:List Int) (b5:Int) (w:World) (b6:cI w a6 l0) (b7:l0.length≤a7) (b8:cI w a8 l1) (b9:l1.length≤a9) (h:Bzk.f k l0 l1=some (b4,b5)) :
  Calls Try.prog 56 #[.slice a6 l0.length a7,.slice a8 l1.length a9] w fun e w'=>∃ v0_:Value,e=.returned (.tuple #[v0_,.int .i64 b5])∧rI w' w (fun _=>True) v0_ b4∧bw w w':=by
 have d6:=aM b6;have d7:=aM b7;clear b6 b7;have d8:=aM b8;have d9:=aM b9;clear b8 b9;have HB:=aM (Below.refl w.heap.size w);have H:((Azz.f k l0).bind fun e6=>(if e6=true then((Azz.f k l1).bind fun e7=>(Bzk.j0 k l0 l1 (!e7))) else(Bzk.j0 k l0 l1 true)))=some (b4,b5):=h
 clear h;have e8:=aM H;clear H;go_enter Try.func56,Try.ntmps56
 go_upto_region 1 with (fail)
 go_cut [13] (fun e9 wc=>∃ (kq:Nat) (f4:Bool),e9=.bool f4∧Aside0 (Bzk.j0 kq l0 l1 f4=some (b4,b5))∧Aside0 (kq≤k)∧Aside0 (bw w wc))
 case first =>
  have H:=e8.out;clear e8;obtain⟨e6,f5,H⟩:=bT H;(try dsimp only at H);by_cases c5:e6=true
  ·subst c5;rw[if_pos rfl] at H;obtain⟨e7,f6,H⟩:=bT H;(try dsimp only at H);have H':=aM H;clear H;go_wp2_with (first|((with_reducible refine gc 70 rfl ?_);refine gC 70 (some 7) Try.func70 #[.slice a6 l0.length a7] ?_;(with_reducible refine(Azz.calls k _ _ l0 true _ ?_ ?_ f5.out).mono ?_);exact cB d6;exact d7.out;rintro e w' ⟨rfl,⟨nd,rfl⟩⟩;refine⟨_,rfl,?_⟩)|(go_at_call 70;(with_reducible refine(Azz.calls k _ _ l1 e7 _ ?_ ?_ f6.out).mono ?_);exact cB d8;exact d9.out;rintro e w' ⟨rfl,⟨nd,rfl⟩⟩))
   go_meet
   case rel=>exact⟨_,(!e7),sD,H',⟨by first|omega|exact Nat.le_refl _⟩,⟨pB⟩⟩
  ·obtain rfl:=bN c5;rw[if_neg nF] at H
   have H':=aM H;clear H;go_wp2_with (first|((with_reducible refine gc 70 rfl ?_);refine gC 70 (some 7) Try.func70 #[.slice a6 l0.length a7] ?_;(with_reducible refine(Azz.calls k _ _ l0 false _ ?_ ?_ f5.out).mono ?_);exact cB d6;exact d7.out;rintro e w' ⟨rfl,⟨nd,rfl⟩⟩;refine⟨_,rfl,?_⟩))
   go_meet
   case rel=>exact⟨_,(true),sD,H',⟨by first|omega|exact Nat.le_refl _⟩,⟨pB⟩⟩
 case rest =>
  clear e8;try clear a9
  obtain⟨kq,f4,rfl,HA,f7,HB⟩:=hcut;cases kq with
  | zero=>exact absurd HA.out (by simp [Bzk.j0])
  | succ f8 =>
   have H:=HA.out;clear HA;simp only[Bzk.j0] at H;by_cases c7:f4=true
   ·subst c7;rw[if_pos rfl] at H;obtain⟨rfl,rfl⟩:=q2 H;go_wp2
    go_ret2
    exact⟨_,eW,nK,pB⟩
   ·obtain rfl:=bN c7;rw[if_neg nF] at H
    obtain⟨f9,g4,H⟩:=bT H;(try dsimp only at H);replace H:=bS H;obtain⟨⟨g5,g6⟩,g7,H⟩:=H;replace H:(some (g5,g6))=some (b4,b5):=H;have g8:=aM g7;clear g7;obtain⟨rfl,rfl⟩:=q2 H;go_wp2_with (first|((with_reducible refine gc 83 rfl ?_);refine gC 83 (some 16) Try.func83 #[.slice a6 l0.length a7,.slice a8 l1.length a9] ?_;(with_reducible refine(Azj.calls f8 _ _ l0 _ _ l1 f9 _ ?_ ?_ ?_ ?_ g4.out).mono ?_);exact cB d6;exact d7.out;exact cB d8;exact d9.out;rintro e g9 ⟨j3,rfl,j4,hb⟩;refine⟨_,rfl,?_⟩;have j5:=rL j4;replace HB:=bB hb;clear hb j4;obtain⟨j6,j7,rfl⟩:=Kd.R_slice j5.out)|((with_reducible refine gc 82 rfl ?_);refine gC 82 (some 17) Try.func82 #[.slice j6 f9.length j7] ?_;(with_reducible refine(Bzz.calls f8 _ _ f9 g5 g6 _ ?_ ?_ g8.out).mono ?_);exact cR j5;exact lR j5;rintro e j8 ⟨j9,rfl,j4,hb⟩;refine⟨_,rfl,?_⟩;have l5:=rL (rn j4 j5);replace j5:=rE j5 j4 hb;replace HB:=bB hb;clear hb j4))
    go_ret2
    exact⟨_,eW,by exact rX (Kd.R_mono l5.out (fun _ hk=>trivial)),pB⟩


def Ezw.f (k:Nat) (l0:List Int) (l1:List Int):Option (Int × Int):=(Azz.f k l0).bind fun t831=>(if t831=true then((Azz.f k l1).bind fun t832=>(if t832=true then((Bzq.f k l0 l1).bind fun t833=>(some (t833,0))) else(some (0,3)))) else(some (0,3)))
theorem Ezw.mono:∀ a6 a7 k,LeO (Ezw.f k a6 a7) (Ezw.f (k+1) a6 a7):=by
 intro a6 a7 k;unfold Ezw.f;have i0:=@Azz.mono;have i1:=@Bzq.mono;exact mM
theorem Ezw.calls (k:Nat) (a6:Option Addr) (a7:Nat) (l0:List Int) (a8:Option Addr) (a9:Nat) (l1:List Int) (b4:Int) (b5:Int) (w:World) (b6:cI w a6 l0) (b7:l0.length≤a7) (b8:cI w a8 l1) (b9:l1.length≤a9) (h:Ezw.f k l0 l1=some (b4,b5)) :
  Calls Try.prog 73 #[.slice a6 l0.length a7,.slice a8 l1.length a9] w fun e w'=>e=.returned (.tuple #[.int .i64 b4,.int .i64 b5])∧Drawn0 w w':=by
 have d6:=aM b6;have d7:=aM b7;clear b6 b7;have d8:=aM b8;have d9:=aM b9;clear b8 b9;have H:((Azz.f k l0).bind fun e6=>(if e6=true then((Azz.f k l1).bind fun e7=>(if e7=true then((Bzq.f k l0 l1).bind fun e8=>(some (e8,0))) else(some (0,3)))) else(some (0,3))))=some (b4,b5):=h
 clear h;obtain⟨e6,e9,H⟩:=bT H;(try dsimp only at H);by_cases c4:e6=true
 ·subst c4;rw[if_pos rfl] at H;obtain⟨e7,f4,H⟩:=bT H;(try dsimp only at H);have f5:=aM H;clear H;go_enter Try.func73,Try.ntmps73
  go_upto_if 13 with (first|((with_reducible refine gc 70 rfl ?_);refine gC 70 (some 7) Try.func70 #[.slice a6 l0.length a7] ?_;(with_reducible refine(Azz.calls k _ _ l0 true _ ?_ ?_ e9.out).mono ?_);exact cX d6.out;exact d7.out;rintro e w' ⟨rfl,⟨nd,rfl⟩⟩;refine⟨_,rfl,?_⟩)|(go_at_call 70;(with_reducible refine(Azz.calls k _ _ l1 e7 _ ?_ ?_ f4.out).mono ?_);exact cX d8.out;exact d9.out;rintro e w' ⟨rfl,⟨nd,rfl⟩⟩))
  have H:=f5.out;clear f5;by_cases c7:e7=true
  ·subst c7;rw[if_pos rfl] at H;replace H:=bS H;obtain⟨e8,f6,H⟩:=H;replace H:(some (e8,0))=some (b4,b5):=H;have f7:=aM f6;clear f6;obtain⟨rfl,rfl⟩:=q2 H;go_wp2_with (first|((with_reducible refine gc 99 rfl ?_);refine gC 99 (some 16) Try.func99 #[.slice a6 l0.length a7,.slice a8 l1.length a9] ?_;(with_reducible refine(Bzq.calls k _ _ l0 _ _ l1 e8 _ ?_ ?_ ?_ ?_ f7.out).mono ?_);exact cX d6.out;exact d7.out;exact cX d8.out;exact d9.out;rintro e w' ⟨rfl,⟨nd,rfl⟩⟩;refine⟨_,rfl,?_⟩))
   go_ret2
   exact⟨sD,dR⟩
  ·obtain rfl:=bN c7;rw[if_neg nF] at H
   obtain⟨rfl,rfl⟩:=q2 H;go_wp2
   go_ret2
   exact⟨sD,dR⟩
 ·obtain rfl:=bN c4;rw[if_neg nF] at H
  obtain⟨rfl,rfl⟩:=q2 H;go_enter Try.func73,Try.ntmps73
  go_wp2_with (first|((with_reducible refine gc 70 rfl ?_);refine gC 70 (some 7) Try.func70 #[.slice a6 l0.length a7] ?_;(with_reducible refine(Azz.calls k _ _ l0 false _ ?_ ?_ e9.out).mono ?_);exact cX d6.out;exact d7.out;rintro e w' ⟨rfl,⟨nd,rfl⟩⟩;refine⟨_,rfl,?_⟩))
  go_ret2
  exact⟨sD,dR⟩

mutual
def Azp.j0:Nat→List Int→List Int→Bool→Option (List Int × Int)
 | 0,_,_,_=>none
 | k+1,x0,x1,x17=>if x17=true then(some (([]:List Int),3)) else(Azp.l0 k x0 x1 ([]:List Int) 0 0)
def Azp.l0:Nat→List Int→List Int→List Int→Int→Int→Option (List Int × Int)
 | 0,_,_,_,_,_=>none
 | k+1,x0,x1,x6,x7,x8=>if x8 < (x0.length:Int) then(Azp.j2 k x0 x1 x6 x7 x8 true) else(if x8 < (x1.length:Int) then(Azp.j2 k x0 x1 x6 x7 x8 true) else(Azp.j2 k x0 x1 x6 x7 x8 (decide (x7 > 0))))
def Azp.j2:Nat→List Int→List Int→List Int→Int→Int→Bool→Option (List Int × Int)
 | 0,_,_,_,_,_,_=>none
 | k+1,x0,x1,x6,x7,x8,x31=>if x31=true then((Ezq.f x0 x8).bind fun t836=>((Ezq.f x1 x8).bind fun t837=>(if x6.length < 17592186044416 then(Azp.l0 k x0 x1 (x6 ++ [Int.tmod (wrap64 ((wrap64 (t836+t837))+x7)) 1000000000]) (wrap64 (Int.tdiv (wrap64 ((wrap64 (t836+t837))+x7)) 1000000000)) (wrap64 (x8+1))) else(none)))) else((Bzz.f k x6).bind fun bt841=>(some (bt841.1,bt841.2)))
end
def Azp.f (k:Nat) (l0:List Int) (l1:List Int):Option (List Int × Int):=(Azz.f k l0).bind fun t834=>(if t834=true then((Azz.f k l1).bind fun t835=>(Azp.j0 k l0 l1 (!t835))) else(Azp.j0 k l0 l1 true))
theorem Azp.mono_l:∀ k,(∀ a6 a7 a8,LeO (Azp.j0 k a6 a7 a8) (Azp.j0 (k+1) a6 a7 a8))∧(∀ a6 a7 a8 a9 b4,LeO (Azp.l0 k a6 a7 a8 a9 b4) (Azp.l0 (k+1) a6 a7 a8 a9 b4))∧(∀ a6 a7 a8 a9 b4 b5,LeO (Azp.j2 k a6 a7 a8 a9 b4 b5) (Azp.j2 (k+1) a6 a7 a8 a9 b4 b5))
 | 0=>⟨fun _ _ _ r h=>by simp [Azp.j0] at h,fun _ _ _ _ _ r h=>by simp [Azp.l0] at h,fun _ _ _ _ _ _ r h=>by simp [Azp.j2] at h⟩
 | k+1=>by
  obtain⟨ih0,ih1,ih2⟩:=Azp.mono_l k;have i0:=@Azz.mono;have i1:=@Bzz.mono;refine⟨?_,?_,?_⟩
  ·intro a6 a7 a8;unfold Azp.j0;exact mM
  ·intro a6 a7 a8 a9 b4;unfold Azp.l0;exact mM
  ·intro a6 a7 a8 a9 b4 b5;unfold Azp.j2;exact mM
theorem Azp.mono:∀ a6 a7 k,LeO (Azp.f k a6 a7) (Azp.f (k+1) a6 a7):=by
 intro a6 a7 k;obtain⟨ih0,ih1,ih2⟩:=Azp.mono_l k;unfold Azp.f;have i0:=@Azz.mono;have i1:=@Bzz.mono;exact mM
theorem Azp.calls (k:Nat) (a6:Option Addr) (a7:Nat) (l0:List Int) (a8:Option Addr) (a9:Nat) (l1:List Int) (b4:List Int) (b5:Int) (w:World) (b6:cI w a6 l0) (b7:l0.length≤a7) (b8:cI w a8 l1) (b9:l1.length≤a9) (h:Azp.f k l0 l1=some (b4,b5)) :
  Calls Try.prog 84 #[.slice a6 l0.length a7,.slice a8 l1.length a9] w fun e w'=>∃ v0_:Value,e=.returned (.tuple #[v0_,.int .i64 b5])∧rI w' w (fun _=>True) v0_ b4∧bw w w':=by
 have d6:=aM b6;have d7:=aM b7;clear b6 b7;have d8:=aM b8;have d9:=aM b9;clear b8 b9;have HB:=aM (Below.refl w.heap.size w);have H:((Azz.f k l0).bind fun e6=>(if e6=true then((Azz.f k l1).bind fun e7=>(Azp.j0 k l0 l1 (!e7))) else(Azp.j0 k l0 l1 true)))=some (b4,b5):=h
 clear h;have e8:=aM H;clear H;go_enter Try.func84,Try.ntmps84
 go_upto_region 1 with (fail)
 go_cut [17] (fun e9 wc=>∃ (kq:Nat) (f4:Bool),e9=.bool f4∧Aside0 (Azp.j0 kq l0 l1 f4=some (b4,b5))∧Aside0 (kq≤k)∧Aside0 (bw w wc))
 case first =>
  have H:=e8.out;clear e8;obtain⟨e6,f5,H⟩:=bT H;(try dsimp only at H);by_cases c5:e6=true
  ·subst c5;rw[if_pos rfl] at H;obtain⟨e7,f6,H⟩:=bT H;(try dsimp only at H);have H':=aM H;clear H;go_wp2_with (first|((with_reducible refine gc 70 rfl ?_);refine gC 70 (some 11) Try.func70 #[.slice a6 l0.length a7] ?_;(with_reducible refine(Azz.calls k _ _ l0 true _ ?_ ?_ f5.out).mono ?_);exact cB d6;exact d7.out;rintro e w' ⟨rfl,⟨nd,rfl⟩⟩;refine⟨_,rfl,?_⟩)|(go_at_call 70;(with_reducible refine(Azz.calls k _ _ l1 e7 _ ?_ ?_ f6.out).mono ?_);exact cB d8;exact d9.out;rintro e w' ⟨rfl,⟨nd,rfl⟩⟩))
   go_meet
   case rel=>exact⟨_,(!e7),sD,H',⟨by first|omega|exact Nat.le_refl _⟩,⟨pB⟩⟩
  ·obtain rfl:=bN c5;rw[if_neg nF] at H
   have H':=aM H;clear H;go_wp2_with (first|((with_reducible refine gc 70 rfl ?_);refine gC 70 (some 11) Try.func70 #[.slice a6 l0.length a7] ?_;(with_reducible refine(Azz.calls k _ _ l0 false _ ?_ ?_ f5.out).mono ?_);exact cB d6;exact d7.out;rintro e w' ⟨rfl,⟨nd,rfl⟩⟩;refine⟨_,rfl,?_⟩))
   go_meet
   case rel=>exact⟨_,(true),sD,H',⟨by first|omega|exact Nat.le_refl _⟩,⟨pB⟩⟩
 case rest =>
  clear e8;try clear a9
  obtain⟨kq,f4,rfl,HA,f7,HB⟩:=hcut;cases kq with
  | zero=>exact absurd HA.out (by simp [Azp.j0])
  | succ f8 =>
   have H:=HA.out;clear HA;simp only[Azp.j0] at H;by_cases c7:f4=true
   ·subst c7;rw[if_pos rfl] at H;obtain⟨rfl,rfl⟩:=q2 H;go_wp2
    go_ret2
    exact⟨_,eW,nK,pB⟩
   ·obtain rfl:=bN c7;rw[if_neg nF] at H
    have H':=aM H;clear H;go_wp2
    go_loopg [6,7,8] f8 (fun kq f9 g4 g5 w'=>∃ (g6:List Int) (g7:Int) (g8:Int),g4=.int .i64 g7∧g5=.int .i64 g8∧Aside0 (Azp.l0 kq l0 l1 g6 g7 g8=some (b4,b5))∧Aside0 (kq≤f8)∧Aside0 (rI w' w (fun _=>True) f9 g6)∧Aside0 (bw w w'))
    case atStart=>exact⟨(([]:List Int)),(0),(0),sD,sD,H',⟨Nat.le_refl _⟩,⟨nK⟩,⟨pB⟩⟩
    case round =>
     clear H';try clear a9
     obtain⟨g6,g7,g8,rfl,rfl,HA,g9,j3,HB⟩:=hrel;cases gk with
     | zero=>exact absurd HA.out (by simp [Azp.l0])
     | succ k2 =>
      have H:=HA.out;clear HA;simp only[Azp.l0] at H;have j4:=aM H;clear H;go_upto_region 6 with (fail)
      go_cut [31] (fun j5 wc=>∃ (kq:Nat) (j6:Bool),j5=.bool j6∧Aside0 (Azp.j2 kq l0 l1 g6 g7 g8 j6=some (b4,b5))∧Aside0 (kq≤k2)∧Aside0 (rI wc w (fun _=>True) u6 g6)∧Aside0 (bw w wc))
      case first =>
       have H:=j4.out;clear j4;replace H:=iD H;rcases H with⟨j7,H⟩|⟨j7,H⟩
       ·(first|rw[j7]|(simp only[i64_w,i32_w];rw[j7])|skip)
        have H':=aM H;clear H;go_wp2
        go_meet
        case rel=>exact⟨_,(true),sD,H',⟨by have:=f7.out;have:=g9.out;first|omega|exact Nat.le_refl _⟩,⟨rX j3.out⟩,⟨pB⟩⟩
       ·(first|rw[j7]|(simp only[i64_w,i32_w];rw[j7])|skip)
        replace H:=iD H;rcases H with⟨j8,H⟩|⟨j8,H⟩
        ·have H':=aM H;clear H;go_wp2
         go_meet
         case rel=>exact⟨_,(true),sD,H',⟨by have:=f7.out;have:=g9.out;first|omega|exact Nat.le_refl _⟩,⟨rX j3.out⟩,⟨pB⟩⟩
        ·have H':=aM H;clear H;go_wp2
         go_meet
         case rel=>exact⟨_,(decide (g7 > 0)),sD,H',⟨by have:=f7.out;have:=g9.out;first|omega|exact Nat.le_refl _⟩,⟨rX j3.out⟩,⟨pB⟩⟩
      case rest =>
       clear j4;try clear a9
       obtain⟨kq,j6,rfl,HA,j9,j3,HB⟩:=hcut;cases kq with
       | zero=>exact absurd HA.out (by simp [Azp.j2])
       | succ l5 =>
        have H:=HA.out;clear HA;simp only[Azp.j2] at H;by_cases l6:j6=true
        ·subst l6;rw[if_pos rfl] at H;obtain⟨l7,l8,H⟩:=bT H;(try dsimp only at H);obtain⟨l9,m0,H⟩:=bT H;(try dsimp only at H);obtain⟨m4,H⟩:=iO H;have LMc14:=aM m4;clear m4;obtain⟨m5,m6⟩:∃ y_:List Int,y_=(g6 ++ [Int.tmod (wrap64 ((wrap64 (l7+l9))+g7)) 1000000000]):=⟨_,rfl⟩;replace H:(Azp.l0 l5 l0 l1 m5 (wrap64 (Int.tdiv (wrap64 ((wrap64 (l7+l9))+g7)) 1000000000)) (wrap64 (g8+1)))=some (b4,b5):=yE m6 H
         have m7:=aM m6;clear m6;have H':=aM H;clear H;go_wp2_with (first|((with_reducible refine gc 105 rfl ?_);refine gC 105 (some 36) Try.func105 #[.slice a6 l0.length a7,.int .i64 g8] ?_;(with_reducible refine(Ezq.calls _ _ l0 g8 l7 _ ?_ ?_ l8.out).mono ?_);exact cB d6;exact d7.out;rintro e w' ⟨rfl,⟨nd,rfl⟩⟩;refine⟨_,rfl,?_⟩)|((with_reducible refine gc 105 rfl ?_);refine gC 105 (some 39) Try.func105 #[.slice a8 l1.length a9,.int .i64 g8] ?_;(with_reducible refine(Ezq.calls _ _ l1 g8 l9 _ ?_ ?_ m0.out).mono ?_);exact cB d8;exact d9.out;rintro e w' ⟨rfl,⟨nd,rfl⟩⟩;refine⟨_,rfl,?_⟩)|((with_reducible refine gate_builtin (b:=.append) (xs:=#[.tmp 43,.tmp 46]) rfl ?_);(try(refine gate_guard (by rfl) ?_;dsimp only));at_builtin;refine Kd.R_append (Kd.int .i64) (w0:=w) w.heap.size rfl (.tmp 43) (.tmp 46) 31 3 (.int .i64 0) 8 rfl Try.underlying31 info3 rfl (by decide) (by omega) u6 g6 (Int.tmod (wrap64 ((wrap64 (l7+l9))+g7)) 1000000000) [.int .i64 (Int.tmod (wrap64 ((wrap64 (l7+l9))+g7)) 1000000000)] (fun _=>True) (fun _=>False) rfl rfl ?aP (fun _ hk=>hk.elim) ?aF ?aO ?aB ?aS ?aL ?_;(case aP=>exact rfl);(case aB=>exact pB);(case aF=>exact(fun _ _=>trivial));(case aO=>exact(rX j3.out));(case aS=>exact(below_size pB));(case aL=>have:=LMc14.out;omega);intro m8 m9 ho hb hg hat;rw[← m7.out] at ho;have n0:=aM (ho);replace HB:=aM (hb);clear j3 ho hb hg hat))
         go_roundg l5
         case measure=>have:=f7.out;have:=g9.out;have:=j9.out;omega
         case rel=>exact⟨(m5),(wrap64 (Int.tdiv (wrap64 ((wrap64 (l7+l9))+g7)) 1000000000)),(wrap64 (g8+1)),sD,sD,H',⟨by have:=f7.out;have:=g9.out;have:=j9.out;omega⟩,⟨rX n0.out⟩,⟨pB⟩⟩
        ·obtain rfl:=bN l6;rw[if_neg nF] at H
         replace H:=bS H;obtain⟨⟨n7,n8⟩,n9,H⟩:=H;replace H:(some (n7,n8))=some (b4,b5):=H;have o0:=aM n9;clear n9;obtain⟨rfl,rfl⟩:=q2 H;obtain⟨o8,o9,rfl⟩:=Kd.R_slice j3.out;go_wp2_with (first|((with_reducible refine gc 82 rfl ?_);refine gC 82 (some 51) Try.func82 #[.slice o8 g6.length o9] ?_;(with_reducible refine(Bzz.calls l5 _ _ g6 n7 n8 _ ?_ ?_ o0.out).mono ?_);exact cR j3;exact lR j3;rintro e p0 ⟨p4,rfl,p7,hb⟩;refine⟨_,rfl,?_⟩;have p9:=rL (rn p7 j3);replace j3:=rE j3 p7 hb;replace HB:=bB hb;clear hb p7))
         go_ret2
         exact⟨_,eW,by exact rX (Kd.R_mono p9.out (fun _ hk=>trivial)),pB⟩


def Czz.j0:Nat→List Int→List Int→Bool→Option (List Int × Int)
 | 0,_,_,_=>none
 | k+1,x0,x1,x13=>if x13=true then(some (([]:List Int),3)) else((Bzq.f k x0 x1).bind fun t847=>(if t847 < 0 then(some (([]:List Int),1)) else((Bzw.f k x0 x1).bind fun t848=>(some (t848,0)))))
def Czz.f (k:Nat) (l0:List Int) (l1:List Int):Option (List Int × Int):=(Azz.f k l0).bind fun t845=>(if t845=true then((Azz.f k l1).bind fun t846=>(Czz.j0 k l0 l1 (!t846))) else(Czz.j0 k l0 l1 true))
theorem Czz.mono_l:∀ k,(∀ a6 a7 a8,LeO (Czz.j0 k a6 a7 a8) (Czz.j0 (k+1) a6 a7 a8))
 | 0=>fun _ _ _ r h=>by simp [Czz.j0] at h
 | k+1=>by
  have ih0:=Czz.mono_l k
  ·intro a6 a7 a8;unfold Czz.j0;have i0:=@Azz.mono;have i1:=@Bzq.mono;have i2:=@Bzw.mono;exact mM
theorem Czz.mono:∀ a6 a7 k,LeO (Czz.f k a6 a7) (Czz.f (k+1) a6 a7):=by
 intro a6 a7 k;have ih0:=Czz.mono_l k;unfold Czz.f;have i0:=@Azz.mono;have i1:=@Bzq.mono;have i2:=@Bzw.mono;exact mM
theorem Czz.calls (k:Nat) (a6:Option Addr) (a7:Nat) (l0:List Int) (a8:Option Addr) (a9:Nat) (l1:List Int) (b4:List Int) (b5:Int) (w:World) (b6:cI w a6 l0) (b7:l0.length≤a7) (b8:cI w a8 l1) (b9:l1.length≤a9) (h:Czz.f k l0 l1=some (b4,b5)) :
  Calls Try.prog 85 #[.slice a6 l0.length a7,.slice a8 l1.length a9] w fun e w'=>∃ v0_:Value,e=.returned (.tuple #[v0_,.int .i64 b5])∧rI w' w (fun _=>True) v0_ b4∧bw w w':=by
 have d6:=aM b6;have d7:=aM b7;clear b6 b7;have d8:=aM b8;have d9:=aM b9;clear b8 b9;have HB:=aM (Below.refl w.heap.size w);have H:((Azz.f k l0).bind fun e6=>(if e6=true then((Azz.f k l1).bind fun e7=>(Czz.j0 k l0 l1 (!e7))) else(Czz.j0 k l0 l1 true)))=some (b4,b5):=h
 clear h;have e8:=aM H;clear H;go_enter Try.func85,Try.ntmps85
 go_upto_region 1 with (fail)
 go_cut [13] (fun e9 wc=>∃ (kq:Nat) (f4:Bool),e9=.bool f4∧Aside0 (Czz.j0 kq l0 l1 f4=some (b4,b5))∧Aside0 (kq≤k)∧Aside0 (bw w wc))
 case first =>
  have H:=e8.out;clear e8;obtain⟨e6,f5,H⟩:=bT H;(try dsimp only at H);by_cases c5:e6=true
  ·subst c5;rw[if_pos rfl] at H;obtain⟨e7,f6,H⟩:=bT H;(try dsimp only at H);have H':=aM H;clear H;go_wp2_with (first|((with_reducible refine gc 70 rfl ?_);refine gC 70 (some 7) Try.func70 #[.slice a6 l0.length a7] ?_;(with_reducible refine(Azz.calls k _ _ l0 true _ ?_ ?_ f5.out).mono ?_);exact cB d6;exact d7.out;rintro e w' ⟨rfl,⟨nd,rfl⟩⟩;refine⟨_,rfl,?_⟩)|(go_at_call 70;(with_reducible refine(Azz.calls k _ _ l1 e7 _ ?_ ?_ f6.out).mono ?_);exact cB d8;exact d9.out;rintro e w' ⟨rfl,⟨nd,rfl⟩⟩))
   go_meet
   case rel=>exact⟨_,(!e7),sD,H',⟨by first|omega|exact Nat.le_refl _⟩,⟨pB⟩⟩
  ·obtain rfl:=bN c5;rw[if_neg nF] at H
   have H':=aM H;clear H;go_wp2_with (first|((with_reducible refine gc 70 rfl ?_);refine gC 70 (some 7) Try.func70 #[.slice a6 l0.length a7] ?_;(with_reducible refine(Azz.calls k _ _ l0 false _ ?_ ?_ f5.out).mono ?_);exact cB d6;exact d7.out;rintro e w' ⟨rfl,⟨nd,rfl⟩⟩;refine⟨_,rfl,?_⟩))
   go_meet
   case rel=>exact⟨_,(true),sD,H',⟨by first|omega|exact Nat.le_refl _⟩,⟨pB⟩⟩
 case rest =>
  clear e8;try clear a9
  obtain⟨kq,f4,rfl,HA,f7,HB⟩:=hcut;cases kq with
  | zero=>exact absurd HA.out (by simp [Czz.j0])
  | succ f8 =>
   have H:=HA.out;clear HA;simp only[Czz.j0] at H;by_cases c7:f4=true
   ·subst c7;rw[if_pos rfl] at H;obtain⟨rfl,rfl⟩:=q2 H;go_wp2
    go_ret2
    exact⟨_,eW,nK,pB⟩
   ·obtain rfl:=bN c7;rw[if_neg nF] at H
    obtain⟨f9,g4,H⟩:=bT H;(try dsimp only at H);have g5:=aM H;clear H;go_upto_if 17 with (first|((with_reducible refine gc 99 rfl ?_);refine gC 99 (some 16) Try.func99 #[.slice a6 l0.length a7,.slice a8 l1.length a9] ?_;(with_reducible refine(Bzq.calls f8 _ _ l0 _ _ l1 f9 _ ?_ ?_ ?_ ?_ g4.out).mono ?_);exact cB d6;exact d7.out;exact cB d8;exact d9.out;rintro e w' ⟨rfl,⟨nd,rfl⟩⟩;refine⟨_,rfl,?_⟩))
    have H:=g5.out;clear g5;replace H:=iD H;rcases H with⟨g6,H⟩|⟨g6,H⟩
    ·(first|rw[g6]|(simp only[i64_w,i32_w];rw[g6])|skip)
     obtain⟨rfl,rfl⟩:=q2 H;go_wp2
     go_ret2
     exact⟨_,eW,nK,pB⟩
    ·(first|rw[g6]|(simp only[i64_w,i32_w];rw[g6])|skip)
     replace H:=bS H;obtain⟨g7,g8,H⟩:=H;replace H:(some (g7,0))=some (b4,b5):=H;have g9:=aM g8;clear g8;obtain⟨rfl,rfl⟩:=q2 H;go_wp2_with (first|((with_reducible refine gc 106 rfl ?_);refine gC 106 (some 20) Try.func106 #[.slice a6 l0.length a7,.slice a8 l1.length a9] ?_;(with_reducible refine(Bzw.calls f8 _ _ l0 _ _ l1 g7 _ ?_ ?_ ?_ ?_ g9.out).mono ?_);exact cB d6;exact d7.out;exact cB d8;exact d9.out;rintro e j3 ⟨j4,rfl,j5,hb⟩;refine⟨_,rfl,?_⟩;have j6:=rL j5;replace HB:=bB hb;clear hb j5))
     go_ret2
     exact⟨_,eW,rX j6.out,pB⟩

def Ezm.f (k:Nat) (a0:Bool) (l1:List Int) (a2:Bool) (l3:List Int):Option (Bool × List Int × Int):=if(a0 == a2)=true then((Azp.f k l1 l3).bind fun bt851=>(some (a0,bt851.1,bt851.2))) else((Ezw.f k l1 l3).bind fun bt855=>(if bt855.1≥0 then((Czz.f k l1 l3).bind fun bt857=>(some (a0,bt857.1,bt857.2))) else((Czz.f k l3 l1).bind fun bt861=>(some (a2,bt861.1,bt861.2)))))
theorem Ezm.mono:∀ a6 a7 a8 a9 k,LeO (Ezm.f k a6 a7 a8 a9) (Ezm.f (k+1) a6 a7 a8 a9):=by
 intro a6 a7 a8 a9 k;unfold Ezm.f;have i0:=@Azp.mono;have i1:=@Ezw.mono;have i2:=@Czz.mono;exact mM
theorem Ezm.calls (k:Nat) (a6:Bool) (a7:Option Addr) (a8:Nat) (l1:List Int) (a9:Bool) (b4:Option Addr) (c3:Nat) (b5:List Int) (b6:Bool) (b7:List Int) (b8:Int) (w:World) (b9:cI w a7 l1) (d6:l1.length≤a8) (d7:cI w b4 b5) (d8:b5.length≤c3) (h:Ezm.f k a6 l1 a9 b5=some (b6,b7,b8)) :
  Calls Try.prog 57 #[.bool a6,.slice a7 l1.length a8,.bool a9,.slice b4 b5.length c3] w fun e w'=>∃ v1_:Value,e=.returned (.tuple #[.bool b6,v1_,.int .i64 b8])∧rI w' w (fun _=>True) v1_ b7∧bw w w':=by
 have d9:=aM b9;have e6:=aM d6;clear b9 d6;have e7:=aM d7;have e8:=aM d8;clear d7 d8;have HB:=aM (Below.refl w.heap.size w);have H:(if(a6 == a9)=true then((Azp.f k l1 b5).bind fun e9=>(some (a6,e9.1,e9.2))) else((Ezw.f k l1 b5).bind fun f4=>(if f4.1≥0 then((Czz.f k l1 b5).bind fun f5=>(some (a6,f5.1,f5.2))) else((Czz.f k b5 l1).bind fun f6=>(some (a9,f6.1,f6.2))))))=some (b6,b7,b8):=h
 clear h;by_cases c5:(a6 == a9)=true
 ·rw[if_pos c5] at H;have f7:(a6 == a9)=true:=c5;(try(have f8:decide (a6=a9)=true:=by simpa using c5))
  (try(have f9:(a6 == a9)=true:=by simpa using c5))
  clear c5;replace H:=bS H;obtain⟨⟨g4,g5⟩,g6,H⟩:=H;replace H:(some (a6,g4,g5))=some (b6,b7,b8):=H;have g7:=aM g6;clear g6;obtain⟨rfl,rfl,rfl⟩:=q3 H;go_enter Try.func57,Try.ntmps57
  go_wp2_with (first|((with_reducible refine gc 84 rfl ?_);refine gC 84 (some 25) Try.func84 #[.slice a7 l1.length a8,.slice b4 b5.length c3] ?_;(with_reducible refine(Azp.calls k _ _ l1 _ _ b5 g4 g5 _ ?_ ?_ ?_ ?_ g7.out).mono ?_);exact cX d9.out;exact e6.out;exact cX e7.out;exact e8.out;rintro e g8 ⟨g9,rfl,j3,hb⟩;refine⟨_,rfl,?_⟩;have j4:=rL j3;replace HB:=bB hb;clear hb j3))
  go_ret3
  exact⟨_,eW,rX j4.out,pB⟩
 ·rw[if_neg c5] at H;have f7:(a6 == a9)=false:=by simpa using c5
  (try(have f8:decide (a6=a9)=false:=by simpa using c5))
  (try(have f9:(a6 == a9)=false:=by simpa using c5))
  (try(have j5:¬ (a6=a9):=by simpa using c5))
  clear c5;obtain⟨⟨j6,j7⟩,j8,H⟩:=bT H;(try dsimp only at H);have j9:=aM H;clear H;go_enter Try.func57,Try.ntmps57
  go_upto_if 38 with (first|((with_reducible refine gc 73 rfl ?_);refine gC 73 (some 34) Try.func73 #[.slice a7 l1.length a8,.slice b4 b5.length c3] ?_;(with_reducible refine(Ezw.calls k _ _ l1 _ _ b5 j6 j7 _ ?_ ?_ ?_ ?_ j8.out).mono ?_);exact cX d9.out;exact e6.out;exact cX e7.out;exact e8.out;rintro e w' ⟨rfl,⟨nd,rfl⟩⟩;refine⟨_,rfl,?_⟩))
  have H:=j9.out;clear j9;by_cases c10:j6≥0
  ·rw[if_pos c10] at H;have l5:decide (0≤j6)=true:=dE c10;clear c10;(first|rw[l5]|(simp only[i64_w,i32_w];rw[l5])|skip)
   replace H:=bS H;obtain⟨⟨l6,l7⟩,l8,H⟩:=H;replace H:(some (a6,l6,l7))=some (b6,b7,b8):=H;have l9:=aM l8;clear l8;obtain⟨rfl,rfl,rfl⟩:=q3 H;go_wp2_with (first|((with_reducible refine gc 85 rfl ?_);refine gC 85 (some 42) Try.func85 #[.slice a7 l1.length a8,.slice b4 b5.length c3] ?_;(with_reducible refine(Czz.calls k _ _ l1 _ _ b5 l6 l7 _ ?_ ?_ ?_ ?_ l9.out).mono ?_);exact cB d9;exact e6.out;exact cB e7;exact e8.out;rintro e m0 ⟨m4,rfl,j3,hb⟩;refine⟨_,rfl,?_⟩;have m5:=rL j3;replace HB:=bB hb;clear hb j3))
   go_ret3
   exact⟨_,eW,rX m5.out,pB⟩
  ·rw[if_neg c10] at H;have l5:decide (0≤j6)=false:=decide_eq_false c10;clear c10;(first|rw[l5]|(simp only[i64_w,i32_w];rw[l5])|skip)
   replace H:=bS H;obtain⟨⟨m6,m7⟩,m8,H⟩:=H;replace H:(some (a9,m6,m7))=some (b6,b7,b8):=H;have m9:=aM m8;clear m8;obtain⟨rfl,rfl,rfl⟩:=q3 H;go_wp2_with (first|((with_reducible refine gc 85 rfl ?_);refine gC 85 (some 51) Try.func85 #[.slice b4 b5.length c3,.slice a7 l1.length a8] ?_;(with_reducible refine(Czz.calls k _ _ b5 _ _ l1 m6 m7 _ ?_ ?_ ?_ ?_ m9.out).mono ?_);exact cB e7;exact e8.out;exact cB d9;exact e6.out;rintro e n0 ⟨n7,rfl,j3,hb⟩;refine⟨_,rfl,?_⟩;have n8:=rL j3;replace HB:=bB hb;clear hb j3))
   go_ret3
   exact⟨_,eW,rX n8.out,pB⟩


mutual
def Bzv.j0:Nat→Bool→Bool→List Int→List Int→Bool→List Int→List Int→Option (Bool × List Int × List Int × Int)
 | 0,_,_,_,_,_,_,_=>none
 | k+1,x22,x866000,x866001,x866002,x867000,x867001,x867002=>if x22=true then(some (false,([]:List Int),([]:List Int),3)) else((Bzk.f k x866001 x867002).bind fun bt870=>((Bzk.f k x867001 x866002).bind fun bt874=>((Bzk.f k x866002 x867002).bind fun bt878=>(if bt870.2=0 then(if bt874.2=0 then(Bzv.j1 k bt870.1 bt874.1 bt878.1 (bt878.2 != 0) x866000 x866001 x866002 x867000 x867001 x867002) else(Bzv.j1 k bt870.1 bt874.1 bt878.1 true x866000 x866001 x866002 x867000 x867001 x867002)) else(Bzv.j1 k bt870.1 bt874.1 bt878.1 true x866000 x866001 x866002 x867000 x867001 x867002)))))
def Bzv.j1:Nat→List Int→List Int→List Int→Bool→Bool→List Int→List Int→Bool→List Int→List Int→Option (Bool × List Int × List Int × Int)
 | 0,_,_,_,_,_,_,_,_,_,_=>none
 | k+1,x6,x8,x10,x57,x866000,x866001,x866002,x867000,x867001,x867002=>if x57=true then(some (false,([]:List Int),([]:List Int),2)) else((Ezm.f k x866000 x6 x867000 x8).bind fun bt882=>(if bt882.2.2=0 then((Dzz.f k bt882.1 bt882.2.1 x10).bind fun bt887=>(some (bt887.1,bt887.2.1,bt887.2.2,0))) else(some (false,([]:List Int),([]:List Int),2))))
end
def Bzv.f (k:Nat) (a0_0:Bool) (l0_1:List Int) (l0_2:List Int) (a1_0:Bool) (l1_1:List Int) (l1_2:List Int):Option (Bool × List Int × List Int × Int):=(Azw.f k a0_0 l0_1 l0_2).bind fun t868=>(if t868=true then((Azw.f k a1_0 l1_1 l1_2).bind fun t869=>(Bzv.j0 k (!t869) a0_0 l0_1 l0_2 a1_0 l1_1 l1_2)) else(Bzv.j0 k true a0_0 l0_1 l0_2 a1_0 l1_1 l1_2))
theorem Bzv.mono_l:∀ k,(∀ a6 a7 a8 a9 b4 b5 b6,LeO (Bzv.j0 k a6 a7 a8 a9 b4 b5 b6) (Bzv.j0 (k+1) a6 a7 a8 a9 b4 b5 b6))∧(∀ a6 a7 a8 a9 b4 b5 b6 b7 b8 b9,LeO (Bzv.j1 k a6 a7 a8 a9 b4 b5 b6 b7 b8 b9) (Bzv.j1 (k+1) a6 a7 a8 a9 b4 b5 b6 b7 b8 b9))
 | 0=>⟨fun _ _ _ _ _ _ _ r h=>by simp [Bzv.j0] at h,fun _ _ _ _ _ _ _ _ _ _ r h=>by simp [Bzv.j1] at h⟩
 | k+1=>by
  obtain⟨ih0,ih1⟩:=Bzv.mono_l k;have i0:=@Bzk.mono;have i1:=@Dzz.mono;have i2:=@Azw.mono;have i3:=@Ezm.mono;refine⟨?_,?_⟩
  ·intro a6 a7 a8 a9 b4 b5 b6;unfold Bzv.j0;exact mM
  ·intro a6 a7 a8 a9 b4 b5 b6 b7 b8 b9;unfold Bzv.j1;exact mM
theorem Bzv.mono:∀ a6 a7 a8 a9 b4 b5 k,LeO (Bzv.f k a6 a7 a8 a9 b4 b5) (Bzv.f (k+1) a6 a7 a8 a9 b4 b5):=by
 intro a6 a7 a8 a9 b4 b5 k;obtain⟨ih0,ih1⟩:=Bzv.mono_l k;unfold Bzv.f;have i0:=@Bzk.mono;have i1:=@Dzz.mono;have i2:=@Azw.mono;have i3:=@Ezm.mono;exact mM
theorem Bzv.calls (k:Nat) (a6:Bool) (a7:Option Addr) (a8:Nat) (a9:List Int) (b4:Option Addr) (b5:Nat) (b6:List Int) (b7:Bool) (b8:Option Addr) (b9:Nat) (d6:List Int) (d7:Option Addr) (d8:Nat) (d9:List Int) (e6:Bool) (e7:List Int) (e8:List Int) (e9:Int) (w:World) (f4:cI w a7 a9) (f5:a9.length≤a8) (f6:cI w b4 b6) (f7:b6.length≤b5) (f8:cI w b8 d6) (f9:d6.length≤b9) (g4:cI w d7 d9) (g5:d9.length≤d8) (h:Bzv.f k a6 a9 b6 b7 d6 d9=some (e6,e7,e8,e9)) :
  Calls Try.prog 29 #[.agg #[.bool a6,.slice a7 a9.length a8,.slice b4 b6.length b5],.agg #[.bool b7,.slice b8 d6.length b9,.slice d7 d9.length d8]] w fun e w'=>∃ v1_ v2_:Value,e=.returned (.tuple #[.agg #[.bool e6,v1_,v2_],.int .i64 e9])∧rI w' w (oV v2_) v1_ e7∧rI w' w (oV v1_) v2_ e8∧bw w w':=by
 have hu33:=Try.underlying33;have g6:=aM f4;have g7:=aM f5;clear f4 f5;have g8:=aM f6;have g9:=aM f7;clear f6 f7;have j3:=aM f8;have j4:=aM f9;clear f8 f9;have j5:=aM g4;have j6:=aM g5;clear g4 g5;have HB:=aM (Below.refl w.heap.size w);have H:((Azw.f k a6 a9 b6).bind fun j7=>(if j7=true then((Azw.f k b7 d6 d9).bind fun j8=>(Bzv.j0 k (!j8) a6 a9 b6 b7 d6 d9)) else(Bzv.j0 k true a6 a9 b6 b7 d6 d9)))=some (e6,e7,e8,e9):=h
 clear h;have j9:=aM H;clear H;go_enter Try.func29,Try.ntmps29
 go_upto_region 1 with (first|((with_reducible refine gd 2 rfl ?_);refine bx #[.bool a6,.slice a7 a9.length a8,.slice b4 b6.length b5] 33 ?_;intro l5 hg l6 l7 hb;have l8:=gA w hg;replace HB:=bB hb;clear hb hg)|((with_reducible refine gd 3 rfl ?_);refine bx #[.bool b7,.slice b8 d6.length b9,.slice d7 d9.length d8] 33 ?_;intro m0 hg m4 m5 hb;have m6:=gA w hg;have m8:=nl hg l7;have m9:=ng hg l7;replace l7:=kb l7 hb;replace HB:=bB hb;clear hb hg)|((with_reducible refine gd 4 rfl ?_);refine bz 33 ?_;intro n0 hg n7 n8 hb;have n9:=gA w hg;have o8:=nl hg l7;have o9:=ng hg l7;have p0:=nl hg m5;have p4:=ng hg m5;replace l7:=kb l7 hb;replace m5:=kb m5 hb;replace HB:=bB hb;clear hb hg))
 (try simp only[Act.put,sA,sZ,sC])
 go_cut [22] (fun p7 wc=>∃ (kq:Nat) (p9:Bool),p7=.bool p9∧Aside0 (Bzv.j0 kq p9 a6 a9 b6 b7 d6 d9=some (e6,e7,e8,e9))∧Aside0 (kq≤k)∧Aside0 (wc.heap[l5]?=some (.cells #[.bool a6,(.slice a7 a9.length a8),(.slice b4 b6.length b5)] 33 (0,0)))∧Aside0 (wc.heap[m0]?=some (.cells #[.bool b7,(.slice b8 d6.length b9),(.slice d7 d9.length d8)] 33 (0,0)))∧Aside0 (wc.heap[n0]?=some (.cells #[.bool false,(.slice none 0 0),(.slice none 0 0)] 33 (0,0)))∧Aside0 (bw w wc))
 case first =>
  have H:=j9.out;clear j9;obtain⟨j7,r5,H⟩:=bT H;(try dsimp only at H);by_cases c8:j7=true
  ·subst c8;rw[if_pos rfl] at H;obtain⟨j8,r6,H⟩:=bT H;(try dsimp only at H);have H':=aM H;clear H;have r7:=m8.out;have r8:=m9.out;have r9:=o8.out;have t4:=o9.out;obtain⟨t5,t6,t7,t8,t9,z3⟩:=bk3 l7;go_wp2_with (first|((with_reducible refine gc 39 rfl ?_);refine gC 39 (some 16) Try.func39 #[.agg #[.bool a6,.slice a7 a9.length a8,.slice b4 b6.length b5]] ?_;(with_reducible refine(Azw.calls k a6 _ _ a9 _ _ b6 true _ ?_ ?_ ?_ ?_ r5.out).mono ?_);exact cB g6;exact g7.out;exact cB g8;exact g9.out;rintro e z4 ⟨rfl,hb⟩;refine⟨_,rfl,?_⟩;replace l7:=kb l7 hb;replace m5:=kb m5 hb;replace n8:=kb n8 hb;replace HB:=bB hb;clear hb;have z5:=p0.out;have z6:=p4.out;obtain⟨z7,z8,z9,B0,B5,B9⟩:=bk3 m5)|(go_at_call 39;(with_reducible refine(Azw.calls k b7 _ _ d6 _ _ d9 j8 _ ?_ ?_ ?_ ?_ r6.out).mono ?_);exact cB j3;exact j4.out;exact cB j5;exact j6.out;rintro e C0 ⟨rfl,hb⟩;replace l7:=kb l7 hb;replace m5:=kb m5 hb;replace n8:=kb n8 hb;replace HB:=bB hb;clear hb))
   go_meet
   case rel=>exact⟨_,(!j8),sD,H',⟨by first|omega|exact Nat.le_refl _⟩,⟨by exact kW l7⟩,⟨by exact kW m5⟩,⟨by exact kW n8⟩,⟨pB⟩⟩
  ·obtain rfl:=bN c8;rw[if_neg nF] at H
   have H':=aM H;clear H;have C1:=m8.out;have C2:=m9.out;have C3:=o8.out;have C4:=o9.out;obtain⟨C6,C7,C8,C9,D2,D3⟩:=bk3 l7;go_wp2_with (first|((with_reducible refine gc 39 rfl ?_);refine gC 39 (some 16) Try.func39 #[.agg #[.bool a6,.slice a7 a9.length a8,.slice b4 b6.length b5]] ?_;(with_reducible refine(Azw.calls k a6 _ _ a9 _ _ b6 false _ ?_ ?_ ?_ ?_ r5.out).mono ?_);exact cB g6;exact g7.out;exact cB g8;exact g9.out;rintro e D4 ⟨rfl,hb⟩;refine⟨_,rfl,?_⟩;replace l7:=kb l7 hb;replace m5:=kb m5 hb;replace n8:=kb n8 hb;replace HB:=bB hb;clear hb))
   go_meet
   case rel=>exact⟨_,(true),sD,H',⟨by first|omega|exact Nat.le_refl _⟩,⟨by exact kW l7⟩,⟨by exact kW m5⟩,⟨by exact kW n8⟩,⟨pB⟩⟩
 case rest =>
  clear j9;try clear D5
  obtain⟨kq,p9,rfl,HA,D6,l7,m5,n8,HB⟩:=hcut;cases kq with
  | zero=>exact absurd HA.out (by simp [Bzv.j0])
  | succ D7 =>
   have H:=HA.out;clear HA;simp only[Bzv.j0] at H;by_cases D8:p9=true
   ·subst D8;rw[if_pos rfl] at H;obtain⟨rfl,rfl,rfl,rfl⟩:=q4 H;have D9:=o9.out;have E0:=o8.out;have E1:=p4.out;have E2:=p0.out;obtain⟨E3,E4,E5,E6,E7,E8⟩:=bk3 n8;go_wp2
    refine rC n0 33 #[.bool false,.slice none 0 0,.slice none 0 0] (kQ n8) Try.underlying33 ?_
    exact⟨_,_,eW,nK,nK,pB⟩
   ·obtain rfl:=bN D8;rw[if_neg nF] at H
    obtain⟨⟨E9,F0⟩,F2,H⟩:=bT H;(try dsimp only at H);obtain⟨⟨F3,F4⟩,F5,H⟩:=bT H;(try dsimp only at H);obtain⟨⟨F6,F7⟩,F8,H⟩:=bT H;(try dsimp only at H);have F9:=aM H;clear H;have G5:=m8.out;have G9:=m9.out;have H5:=o8.out;have H6:=o9.out;obtain⟨H7,H8,H9,I0,I3,I4⟩:=bk3 l7;have I5:=p0.out;have I6:=p4.out;obtain⟨I7,I8,I9,J0,J1,J2⟩:=bk3 m5;go_upto_region 6 with (first|((with_reducible refine gc 56 rfl ?_);refine gC 56 (some 29) Try.func56 #[.slice a7 a9.length a8,.slice d7 d9.length d8] ?_;(with_reducible refine(Bzk.calls D7 _ _ a9 _ _ d9 E9 F0 _ ?_ ?_ ?_ ?_ F2.out).mono ?_);exact cB g6;exact g7.out;exact cB j5;exact j6.out;rintro e J3 ⟨J4,rfl,J5,hb⟩;refine⟨_,rfl,?_⟩;have J6:=rL J5;replace l7:=kb l7 hb;replace m5:=kb m5 hb;replace n8:=kb n8 hb;replace HB:=bB hb;clear hb J5;obtain⟨J7,J8,J9,K0,K1,K2⟩:=bk3 m5;obtain⟨K3,K4,K5,K6,K7,K8⟩:=bk3 l7)|((with_reducible refine gc 56 rfl ?_);refine gC 56 (some 37) Try.func56 #[.slice b8 d6.length b9,.slice b4 b6.length b5] ?_;(with_reducible refine(Bzk.calls D7 _ _ d6 _ _ b6 F3 F4 _ ?_ ?_ ?_ ?_ F5.out).mono ?_);exact cB j3;exact j4.out;exact cB g8;exact g9.out;rintro e K9 ⟨L0,rfl,J5,hb⟩;refine⟨_,rfl,?_⟩;have L7:=rL (rn J5 J6);replace J6:=rE J6 J5 hb;replace l7:=kb l7 hb;replace m5:=kb m5 hb;replace n8:=kb n8 hb;replace HB:=bB hb;clear hb J5;obtain⟨L8,L9,M0,M3,M4,M5⟩:=bk3 l7;obtain⟨M6,M7,M8,M9,N0,N1⟩:=bk3 m5)|((with_reducible refine gc 56 rfl ?_);refine gC 56 (some 45) Try.func56 #[.slice b4 b6.length b5,.slice d7 d9.length d8] ?_;(with_reducible refine(Bzk.calls D7 _ _ b6 _ _ d9 F6 F7 _ ?_ ?_ ?_ ?_ F8.out).mono ?_);exact cB g8;exact g9.out;exact cB j5;exact j6.out;rintro e N2 ⟨N3,rfl,J5,hb⟩;refine⟨_,rfl,?_⟩;have N4:=rL (rn (rn J5 J6) L7);replace J6:=rE J6 J5 hb;replace L7:=rE L7 J5 hb;replace l7:=kb l7 hb;replace m5:=kb m5 hb;replace n8:=kb n8 hb;replace HB:=bB hb;clear hb J5))
    (try simp only[Act.put,sA,sZ,sC])
    go_cut [57] (fun N5 wc=>∃ (kq:Nat) (N6:Bool),N5=.bool N6∧Aside0 (Bzv.j1 kq E9 F3 F6 N6 a6 a9 b6 b7 d6 d9=some (e6,e7,e8,e9))∧Aside0 (kq≤D7)∧Aside0 (rI wc w (fun k_=>oV L0 k_∧oV N3 k_) J4 E9)∧Aside0 (rI wc w (fun k_=>oV J4 k_∧oV N3 k_) L0 F3)∧Aside0 (rI wc w (fun k_=>oV J4 k_∧oV L0 k_) N3 F6)∧Aside0 (wc.heap[l5]?=some (.cells #[.bool a6,(.slice a7 a9.length a8),(.slice b4 b6.length b5)] 33 (0,0)))∧Aside0 (wc.heap[m0]?=some (.cells #[.bool b7,(.slice b8 d6.length b9),(.slice d7 d9.length d8)] 33 (0,0)))∧Aside0 (wc.heap[n0]?=some (.cells #[.bool false,(.slice none 0 0),(.slice none 0 0)] 33 (0,0)))∧Aside0 (bw w wc))
    case first =>
     have H:=F9.out;clear F9;replace H:=iE H;rcases H with⟨N8,N9,H⟩|⟨N7,N8,N9,H⟩
     ·(first|rw[N8]|(simp only[i64_w,i32_w];rw[N8])|skip)
      replace H:=iE H;rcases H with⟨O1,O2,H⟩|⟨O0,O1,O2,H⟩
      ·have H':=aM H;clear H;go_wp2
       go_meet
       case rel=>exact⟨_,((F7 != 0)),sD,H',⟨by have:=D6.out;first|omega|exact Nat.le_refl _⟩,⟨by exact rX (Kd.R_mono J6.out (fun _ hk=>⟨hk.1.2,hk.2⟩))⟩,⟨by exact rX (Kd.R_mono L7.out (fun _ hk=>⟨hk.1.2,hk.2⟩))⟩,⟨by exact rX (Kd.R_mono N4.out (fun _ hk=>⟨hk.1.2,hk.2⟩))⟩,⟨by exact kW l7⟩,⟨by exact kW m5⟩,⟨by exact kW n8⟩,⟨pB⟩⟩
      ·have H':=aM H;clear H;go_wp2
       go_meet
       case rel=>exact⟨_,(true),sD,H',⟨by have:=D6.out;first|omega|exact Nat.le_refl _⟩,⟨by exact rX (Kd.R_mono J6.out (fun _ hk=>⟨hk.1.2,hk.2⟩))⟩,⟨by exact rX (Kd.R_mono L7.out (fun _ hk=>⟨hk.1.2,hk.2⟩))⟩,⟨by exact rX (Kd.R_mono N4.out (fun _ hk=>⟨hk.1.2,hk.2⟩))⟩,⟨by exact kW l7⟩,⟨by exact kW m5⟩,⟨by exact kW n8⟩,⟨pB⟩⟩
     ·(first|rw[N8]|(simp only[i64_w,i32_w];rw[N8])|skip)
      have H':=aM H;clear H;go_wp2
      go_meet
      case rel=>exact⟨_,(true),sD,H',⟨by have:=D6.out;first|omega|exact Nat.le_refl _⟩,⟨by exact rX (Kd.R_mono J6.out (fun _ hk=>⟨hk.1.2,hk.2⟩))⟩,⟨by exact rX (Kd.R_mono L7.out (fun _ hk=>⟨hk.1.2,hk.2⟩))⟩,⟨by exact rX (Kd.R_mono N4.out (fun _ hk=>⟨hk.1.2,hk.2⟩))⟩,⟨by exact kW l7⟩,⟨by exact kW m5⟩,⟨by exact kW n8⟩,⟨pB⟩⟩
    case rest =>
     clear F9;try clear D5
     obtain⟨kq,N6,rfl,HA,O3,O4,O5,O6,l7,m5,n8,HB⟩:=hcut;cases kq with
     | zero=>exact absurd HA.out (by simp [Bzv.j1])
     | succ O7 =>
      have H:=HA.out;clear HA;simp only[Bzv.j1] at H;by_cases O8:N6=true
      ·subst O8;rw[if_pos rfl] at H;obtain⟨rfl,rfl,rfl,rfl⟩:=q4 H;have O9:=o9.out;have P0:=o8.out;have P3:=p4.out;have P4:=p0.out;obtain⟨P5,P6,P7,P8,P9,Q0⟩:=bk3 n8;go_wp2
       refine rC n0 33 #[.bool false,.slice none 0 0,.slice none 0 0] (kQ n8) Try.underlying33 ?_
       exact⟨_,_,eW,nK,nK,pB⟩
      ·obtain rfl:=bN O8;rw[if_neg nF] at H
       obtain⟨⟨Q1,Q2,Q3⟩,Q4,H⟩:=bT H;(try dsimp only at H);have Q5:=aM H;clear H;have Q6:=m8.out;have Q7:=m9.out;have Q8:=o8.out;have Q9:=o9.out;obtain⟨R0,R1,R2,R3,R4,R5⟩:=bk3 l7;have R6:=p0.out;have R7:=p4.out;obtain⟨R8,R9,U0,U1,U2,U3⟩:=bk3 m5;obtain⟨U4,U5,rfl⟩:=Kd.R_slice O4.out;obtain⟨U6,U7,rfl⟩:=Kd.R_slice O5.out;go_upto_if 71 with (first|((with_reducible refine gc 57 rfl ?_);refine gC 57 (some 66) Try.func57 #[.bool a6,.slice U4 E9.length U5,.bool b7,.slice U6 F3.length U7] ?_;(with_reducible refine(Ezm.calls O7 a6 _ _ E9 b7 _ _ F3 Q1 Q2 Q3 _ ?_ ?_ ?_ ?_ Q4.out).mono ?_);exact cR O4;exact lR O4;exact cR O5;exact lR O5;rintro e U8 ⟨U9,rfl,J5,hb⟩;refine⟨_,rfl,?_⟩;have V0:=rL (rn (rn (rn J5 O4) O5) O6);replace O4:=rE O4 J5 hb;replace O5:=rE O5 J5 hb;replace O6:=rE O6 J5 hb;replace l7:=kb l7 hb;replace m5:=kb m5 hb;replace n8:=kb n8 hb;replace HB:=bB hb;clear hb J5))
       have H:=Q5.out;clear Q5;replace H:=iE H;rcases H with⟨V2,V3,H⟩|⟨V1,V2,V3,H⟩
       ·(first|rw[V2]|(simp only[i64_w,i32_w];rw[V2])|skip)
        replace H:=bS H;obtain⟨⟨V4,V5,V6⟩,V7,H⟩:=H;replace H:(some (V4,V5,V6,0))=some (e6,e7,e8,e9):=H;have V8:=aM V7;clear V7;obtain⟨rfl,rfl,rfl,rfl⟩:=q4 H;obtain⟨V9,W3,rfl⟩:=Kd.R_slice V0.out;obtain⟨W4,W5,rfl⟩:=Kd.R_slice O6.out;go_wp2_with (first|((with_reducible refine gc 58 rfl ?_);refine gC 58 (some 76) Try.func58 #[.bool Q1,.slice V9 Q2.length W3,.slice W4 F6.length W5] ?_;(with_reducible refine(Dzz.calls O7 Q1 _ _ Q2 _ _ F6 V4 V5 V6 _ ?_ ?_ ?_ ?_ V8.out).mono ?_);exact cR V0;exact lR V0;exact cR O6;exact lR O6;rintro e W6 ⟨W7,W8,rfl,J5,W9,hb⟩;refine⟨_,rfl,?_⟩;have X0:=rL (rn (rn (rn (rn J5 O4) O5) O6) V0);have X3:=rL (rn (rn (rn (rn W9 O4) O5) O6) V0);replace O4:=rO O4 hb J5 W9;replace O5:=rO O5 hb J5 W9;replace O6:=rO O6 hb J5 W9;replace V0:=rO V0 hb J5 W9;replace l7:=kb l7 hb;replace m5:=kb m5 hb;replace n8:=kb n8 hb;replace HB:=bB hb;clear hb J5 W9;have X4:=o9.out;have X5:=o8.out;have X6:=p4.out;have X7:=p0.out;obtain⟨X8,X9,Y0,Y1,Y2,Y3⟩:=bk3 n8;obtain⟨Y4,Y5,rfl⟩:=Kd.R_slice X0.out;obtain⟨Y6,Y7,rfl⟩:=Kd.R_slice X3.out))
        refine rC n0 33 #[.bool V4,.slice Y4 V5.length Y5,.slice Y6 V6.length Y7] (kQ n8) Try.underlying33 ?_
        exact⟨_,_,eW,by exact Kd.R_mono (rT X0 n8) (fun _ hk=>hk.1.1.1.1),by exact Kd.R_mono (rT X3 n8) (fun _ hk=>hk.1.1.1.1),pB⟩
       ·(first|rw[V2]|(simp only[i64_w,i32_w];rw[V2])|skip)
        obtain⟨rfl,rfl,rfl,rfl⟩:=q4 H;have Y8:=o9.out;have Y9:=o8.out;have Z0:=p4.out;have Z1:=p0.out;obtain⟨Z2,Z3,Z4,Z5,Z6,Z7⟩:=bk3 n8;go_wp2
        refine rC n0 33 #[.bool false,.slice none 0 0,.slice none 0 0] (kQ n8) Try.underlying33 ?_
        exact⟨_,_,eW,nK,nK,pB⟩

end Go.Proofs.Ytbnpcplckcipfaa.Print
