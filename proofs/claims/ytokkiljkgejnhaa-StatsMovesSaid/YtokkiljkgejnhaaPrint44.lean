import Derived.Test.YtokkiljkgejnhaaPrint0
import Derived.Test.YtokkiljkgejnhaaPrint25
import Derived.Test.YtokkiljkgejnhaaPrint26
import Derived.Test.YtokkiljkgejnhaaPrint35
import Derived.Test.YtokkiljkgejnhaaPrint39
import Derived.Test.YtokkiljkgejnhaaPrint40
import Derived.Test.YtokkiljkgejnhaaPrint41
namespace Go.Proofs.Ytokkiljkgejnhaa.Print
open Go.RowKit Go.Proofs.YtokkiljkgejnhaaW.PrintWords Go.Proofs.YtokkiljkgejnhaaW.PrintLast Go.Proofs.YtokkiljkgejnhaaW.PrintMore
attribute [local go_sem] max2_int min2_int max_two min_two max_three min_three max_four min_four
set_option linter.unusedVariables false
set_option maxRecDepth 100000
set_option linter.unusedSimpArgs false

mutual
def papermilllaw60_StatsMoves.j0:Nat→List Int→Int→Int→Int→Bool→Bool→List Int→List Int→Bool→List Int→List Int→Option (Bool)
 | 0,_,_,_,_,_,_,_,_,_,_,_=>none
 | k+1,x0,x1,x6,x8,x49,x766000,x766001,x766002,x775000,x775001,x775002=>if x49=true then(if x6=x8 then((Azz.f k).bind fun t775=>(some t775)) else(none)) else(if 0 < (x0.length:Int) then(papermilllaw60_StatsMoves.l0 k x0 x1 (rd x0 0) (rd x0 0) 0 x766000 x766001 x766002 x775000 x775001 x775002) else(none))
def papermilllaw60_StatsMoves.l0:Nat→List Int→Int→Int→Int→Int→Bool→List Int→List Int→Bool→List Int→List Int→Option (Bool)
 | 0,_,_,_,_,_,_,_,_,_,_,_=>none
 | k+1,x0,x1,x9,x10,x11,x766000,x766001,x766002,x775000,x775001,x775002=>if x11 < (x0.length:Int) then(if 0≤x11 then(papermilllaw60_StatsMoves.l0 k x0 x1 (mn x9 (rd x0 x11)) (mx x10 (rd x0 x11)) (wrap64 (x11+1)) x766000 x766001 x766002 x775000 x775001 x775002) else(none)) else((Ezz.f k x766000 x766001 x766002).bind fun bt780=>((Ezx.f k x766000 x766001 x766002).bind fun bt782=>(if bt780.2=0 then(if bt782.2=0 then(if bt780.1 < x9 then(papermilllaw60_StatsMoves.j2 k x0 x1 x9 x10 true x766000 x766001 x766002 x775000 x775001 x775002) else(if bt782.1 > x10 then(papermilllaw60_StatsMoves.j2 k x0 x1 x9 x10 true x766000 x766001 x766002 x775000 x775001 x775002) else(if x775000=true then(papermilllaw60_StatsMoves.j2 k x0 x1 x9 x10 true x766000 x766001 x766002 x775000 x775001 x775002) else(papermilllaw60_StatsMoves.j2 k x0 x1 x9 x10 (((x775001.length:Int) == 0) != (x9 == x10)) x766000 x766001 x766002 x775000 x775001 x775002)))) else(papermilllaw60_StatsMoves.j2 k x0 x1 x9 x10 true x766000 x766001 x766002 x775000 x775001 x775002)) else(papermilllaw60_StatsMoves.j2 k x0 x1 x9 x10 true x766000 x766001 x766002 x775000 x775001 x775002))))
def papermilllaw60_StatsMoves.j2:Nat→List Int→Int→Int→Int→Bool→Bool→List Int→List Int→Bool→List Int→List Int→Option (Bool)
 | 0,_,_,_,_,_,_,_,_,_,_,_=>none
 | k+1,x0,x1,x9,x10,x119,x766000,x766001,x766002,x775000,x775001,x775002=>if x119=true then(none) else((Azw.f k x0 0).bind fun t784=>((Czz.f k t784).bind fun bt787=>((Azw.f k x0 0).bind fun t796=>((Azb.f k t796).bind fun bt799=>((Ezp.f k x766000 x766001 x766002).bind fun bt808=>(if bt787.2.2.2=0 then(if bt799.2.2.2=0 then(if bt808.2.2.2=0 then((Azm.f k bt787.1 bt787.2.1 bt787.2.2.1 bt808.1 bt808.2.1 bt808.2.2.1).bind fun t817=>(if t817=true then((Azm.f k bt799.1 bt799.2.1 bt799.2.2.1 x775000 x775001 x775002).bind fun t818=>(papermilllaw60_StatsMoves.j3 k x0 x1 x9 x10 (!t818) x766000 x766001 x766002 x775000 x775001 x775002)) else(papermilllaw60_StatsMoves.j3 k x0 x1 x9 x10 true x766000 x766001 x766002 x775000 x775001 x775002))) else(papermilllaw60_StatsMoves.j3 k x0 x1 x9 x10 true x766000 x766001 x766002 x775000 x775001 x775002)) else(papermilllaw60_StatsMoves.j3 k x0 x1 x9 x10 true x766000 x766001 x766002 x775000 x775001 x775002)) else(papermilllaw60_StatsMoves.j3 k x0 x1 x9 x10 true x766000 x766001 x766002 x775000 x775001 x775002)))))))
def papermilllaw60_StatsMoves.j3:Nat→List Int→Int→Int→Int→Bool→Bool→List Int→List Int→Bool→List Int→List Int→Option (Bool)
 | 0,_,_,_,_,_,_,_,_,_,_,_=>none
 | k+1,x0,x1,x9,x10,x158,x766000,x766001,x766002,x775000,x775001,x775002=>if x158=true then(none) else(if x1=0 then(papermilllaw60_StatsMoves.j4 k x0 x1 true x766000 x766001 x766002 x775000 x775001 x775002) else(if x1 < (-1099511627776) then(papermilllaw60_StatsMoves.j4 k x0 x1 true x766000 x766001 x766002 x775000 x775001 x775002) else(if x1 > 1099511627776 then(papermilllaw60_StatsMoves.j4 k x0 x1 true x766000 x766001 x766002 x775000 x775001 x775002) else(if(wrap64 (x9+x1)) < (-1099511627776) then(papermilllaw60_StatsMoves.j4 k x0 x1 true x766000 x766001 x766002 x775000 x775001 x775002) else(papermilllaw60_StatsMoves.j4 k x0 x1 (decide ((wrap64 (x10+x1)) > 1099511627776)) x766000 x766001 x766002 x775000 x775001 x775002)))))
def papermilllaw60_StatsMoves.j4:Nat→List Int→Int→Bool→Bool→List Int→List Int→Bool→List Int→List Int→Option (Bool)
 | 0,_,_,_,_,_,_,_,_,_=>none
 | k+1,x0,x1,x180,x766000,x766001,x766002,x775000,x775001,x775002=>if x180=true then((Azz.f k).bind fun t819=>(some t819)) else((Azw.f k x0 x1).bind fun t820=>((Czz.f k t820).bind fun bt823=>((Azw.f k x0 x1).bind fun t832=>((Azb.f k t832).bind fun bt835=>((Ezq.f k x1).bind fun bt844=>((Dzp.f k x766000 x766001 x766002 bt844.1 bt844.2.1 bt844.2.2.1).bind fun bt853=>(if bt823.2.2.2=0 then(if bt835.2.2.2=0 then(if bt844.2.2.2=0 then(if bt853.2.2.2=0 then((Azm.f k bt823.1 bt823.2.1 bt823.2.2.1 bt853.1 bt853.2.1 bt853.2.2.1).bind fun t862=>(if t862=true then((Azm.f k bt835.1 bt835.2.1 bt835.2.2.1 x775000 x775001 x775002).bind fun t863=>(if t863=true then((Azz.f k).bind fun t864=>(some t864)) else(none))) else(none))) else(none)) else(none)) else(none)) else(none))))))))
end
def papermilllaw60_StatsMoves.f (k:Nat) (l0:List Int) (a1:Int):Option (Bool):=if(l0.length:Int) > 520 then((Azz.f k).bind fun t756=>(some t756)) else((Czz.f k l0).bind fun bt757=>((Azb.f k l0).bind fun bt766=>(if bt757.2.2.2=0 then(papermilllaw60_StatsMoves.j0 k l0 a1 bt757.2.2.2 bt766.2.2.2 (bt766.2.2.2 != 0) bt757.1 bt757.2.1 bt757.2.2.1 bt766.1 bt766.2.1 bt766.2.2.1) else(papermilllaw60_StatsMoves.j0 k l0 a1 bt757.2.2.2 bt766.2.2.2 true bt757.1 bt757.2.1 bt757.2.2.1 bt766.1 bt766.2.1 bt766.2.2.1))))
theorem papermilllaw60_StatsMoves.mono_l:∀ k,(∀ a6 a7 a8 b4 b5 b6 b7 b8 b9 d0 d6,LeO (papermilllaw60_StatsMoves.j0 k a6 a7 a8 b4 b5 b6 b7 b8 b9 d0 d6) (papermilllaw60_StatsMoves.j0 (k+1) a6 a7 a8 b4 b5 b6 b7 b8 b9 d0 d6))∧(∀ a6 a7 a8 b4 b5 b6 b7 b8 b9 d0 d6,LeO (papermilllaw60_StatsMoves.l0 k a6 a7 a8 b4 b5 b6 b7 b8 b9 d0 d6) (papermilllaw60_StatsMoves.l0 (k+1) a6 a7 a8 b4 b5 b6 b7 b8 b9 d0 d6))∧(∀ a6 a7 a8 b4 b5 b6 b7 b8 b9 d0 d6,LeO (papermilllaw60_StatsMoves.j2 k a6 a7 a8 b4 b5 b6 b7 b8 b9 d0 d6) (papermilllaw60_StatsMoves.j2 (k+1) a6 a7 a8 b4 b5 b6 b7 b8 b9 d0 d6))∧(∀ a6 a7 a8 b4 b5 b6 b7 b8 b9 d0 d6,LeO (papermilllaw60_StatsMoves.j3 k a6 a7 a8 b4 b5 b6 b7 b8 b9 d0 d6) (papermilllaw60_StatsMoves.j3 (k+1) a6 a7 a8 b4 b5 b6 b7 b8 b9 d0 d6))∧(∀ a6 a7 a8 b4 b5 b6 b7 b8 b9,LeO (papermilllaw60_StatsMoves.j4 k a6 a7 a8 b4 b5 b6 b7 b8 b9) (papermilllaw60_StatsMoves.j4 (k+1) a6 a7 a8 b4 b5 b6 b7 b8 b9))
 | 0=>⟨fun _ _ _ _ _ _ _ _ _ _ _ r h=>by simp [papermilllaw60_StatsMoves.j0] at h,fun _ _ _ _ _ _ _ _ _ _ _ r h=>by simp [papermilllaw60_StatsMoves.l0] at h,fun _ _ _ _ _ _ _ _ _ _ _ r h=>by simp [papermilllaw60_StatsMoves.j2] at h,fun _ _ _ _ _ _ _ _ _ _ _ r h=>by simp [papermilllaw60_StatsMoves.j3] at h,fun _ _ _ _ _ _ _ _ _ r h=>by simp [papermilllaw60_StatsMoves.j4] at h⟩
 | k+1=>by
  obtain⟨ih0,ih1,ih2,ih3,ih4⟩:=papermilllaw60_StatsMoves.mono_l k;have i0:=@Azz.mono;have i1:=@Azw.mono;have i2:=@Azm.mono;have i3:=@Dzp.mono;have i4:=@Ezx.mono;have i5:=@Ezz.mono;have i6:=@Ezp.mono;have i7:=@Ezq.mono;have i8:=@Czz.mono;have i9:=@Azb.mono;refine⟨?_,?_,?_,?_,?_⟩
  ·intro a6 a7 a8 b4 b5 b6 b7 b8 b9 d0 d6;unfold papermilllaw60_StatsMoves.j0;exact mM
  ·intro a6 a7 a8 b4 b5 b6 b7 b8 b9 d0 d6;unfold papermilllaw60_StatsMoves.l0;exact mM
  ·intro a6 a7 a8 b4 b5 b6 b7 b8 b9 d0 d6;unfold papermilllaw60_StatsMoves.j2;exact mM
  ·intro a6 a7 a8 b4 b5 b6 b7 b8 b9 d0 d6;unfold papermilllaw60_StatsMoves.j3;exact mM
  ·intro a6 a7 a8 b4 b5 b6 b7 b8 b9;unfold papermilllaw60_StatsMoves.j4;exact mM
theorem papermilllaw60_StatsMoves.mono:∀ a6 a7 k,LeO (papermilllaw60_StatsMoves.f k a6 a7) (papermilllaw60_StatsMoves.f (k+1) a6 a7):=by
 intro a6 a7 k;obtain⟨ih0,ih1,ih2,ih3,ih4⟩:=papermilllaw60_StatsMoves.mono_l k;unfold papermilllaw60_StatsMoves.f;have i0:=@Azz.mono;have i1:=@Azw.mono;have i2:=@Azm.mono;have i3:=@Dzp.mono;have i4:=@Ezx.mono;have i5:=@Ezz.mono;have i6:=@Ezp.mono;have i7:=@Ezq.mono;have i8:=@Czz.mono;have i9:=@Azb.mono;exact mM
set_option maxHeartbeats 64000000 in
theorem papermilllaw60_StatsMoves.calls (k:Nat) (a6:Option Addr) (a7:Nat) (l0:List Int) (a8:Int) (r:Bool) (w:World) (b4:Kd.C (Kd.int .i64) w a6 l0.length l0) (b5:l0.length≤a7) (h:papermilllaw60_StatsMoves.f k l0 a8=some r) :
  Calls Try.prog 9 #[.slice a6 l0.length a7,.int .i64 a8] w fun e w'=>e=.returned (.bool r)∧Below w.heap.size w w':=by
 have hu38:=Try.underlying38;have b6:=aM b4;have b7:=aM b5;clear b4 b5;have HB:=aM (Below.refl w.heap.size w);have H:(if(l0.length:Int) > 520 then((Azz.f k).bind fun b8=>(some b8)) else((Czz.f k l0).bind fun b9=>((Azb.f k l0).bind fun d0=>(if b9.2.2.2=0 then(papermilllaw60_StatsMoves.j0 k l0 a8 b9.2.2.2 d0.2.2.2 (d0.2.2.2 != 0) b9.1 b9.2.1 b9.2.2.1 d0.1 d0.2.1 d0.2.2.1) else(papermilllaw60_StatsMoves.j0 k l0 a8 b9.2.2.2 d0.2.2.2 true b9.1 b9.2.1 b9.2.2.1 d0.1 d0.2.1 d0.2.2.1)))))=some r:=h
 clear h;by_cases c3:(l0.length:Int) > 520
 ·rw[if_pos c3] at H;have d6:decide (520 < (l0.length:Int))=true:=dE c3;have d7:decide (520 < l0.length)=true:=dE (by omega)
  clear c3;replace H:=bS H;obtain⟨b8,d8,H⟩:=H;try dsimp only at H
  have d9:=aM d8;clear d8;obtain rfl:=Option.some.inj H;go_enter Try.func9,Try.ntmps9
  go_wp2_with (first|(go_at_call 10;(with_reducible refine(Azz.calls k  b8 _ d9.out).mono ?_);rintro e e6 ⟨rfl,hb⟩;replace HB:=bB hb;clear hb))
  repeat(go_quiet (first|(go_at_call 10;(with_reducible refine(Azz.calls k  b8 _ d9.out).mono ?_);rintro e e6 ⟨rfl,hb⟩;replace HB:=bB hb;clear hb));try go_wp2_with (first|(go_at_call 10;(with_reducible refine(Azz.calls k  b8 _ d9.out).mono ?_);rintro e e6 ⟨rfl,hb⟩;replace HB:=bB hb;clear hb)))
  go_ret
  exact⟨eW,pB⟩
 ·rw[if_neg c3] at H;have d6:decide (520 < (l0.length:Int))=false:=decide_eq_false c3;have d7:decide (520 < l0.length)=false:=decide_eq_false (by omega)
  clear c3;replace H:=bS H;obtain⟨⟨e7,e8,e9,f3⟩,f4,H⟩:=H;try dsimp only at H
  have f6:=aM f4;clear f4;replace H:=bS H;obtain⟨⟨f9,g4,g5,g6⟩,g7,H⟩:=H;try dsimp only at H
  have g8:=aM g7;clear g7;have g9:=aM H;clear H;go_enter Try.func9,Try.ntmps9
  go_upto_region 5 with (first|(go_at_call 20;(with_reducible refine(Czz.calls k _ _ l0 e7 e8 e9 f3 _ ?_ ?_ f6.out).mono ?_);exact cX b6.out;exact b7.out;rintro e j5 ⟨j6,j7,rfl,j8,j9,hb⟩;have l5:=rL j8;have l6:=rL j9;replace HB:=bB hb;clear hb j8 j9)|((with_reducible refine gd 5 rfl ?_);refine bxg #[.bool false,.slice none 0 0,.slice none 0 0] 38 ?_;intro l7 hg l8 l9 hb;have m0:=gA w hg;have m2:=gA w hg;replace l5:=rB l5 hb;replace l6:=rB l6 hb;replace HB:=bB hb;clear hb hg;obtain⟨m3,m4,m5,m6,m7,m8⟩:=bk3 l9;obtain⟨m9,n0,rfl⟩:=Kd.R_slice l5.out;obtain⟨n6,n7,rfl⟩:=Kd.R_slice l6.out)|(go_at_call 23;(with_reducible refine(Azb.calls k _ _ l0 f9 g4 g5 g6 _ ?_ ?_ g8.out).mono ?_);exact Kd.C_below b6.out pB;exact b7.out;rintro e n8 ⟨n9,o0,rfl,j8,j9,hb⟩;have o8:=rL (Kd.R_new' (Kd.R_new' j8 (Kd.R_lt (rT l5 l9))) (Kd.R_lt (rT l6 l9)));have o9:=rL (Kd.R_new' (Kd.R_new' j9 (Kd.R_lt (rT l5 l9))) (Kd.R_lt (rT l6 l9)));replace l5:=ro (rT l5 l9) hb j8 j9;replace l6:=ro (rT l6 l9) hb j8 j9;replace l9:=kP (o':=.cells #[.bool e7,.slice m9 e8.length n0,.slice n6 e9.length n7] 38 (0,0)) l9 hb;replace HB:=bB hb;clear hb j8 j9)|((with_reducible refine gd 7 rfl ?_);refine bxg #[.bool false,.slice none 0 0,.slice none 0 0] 38 ?_;intro p0 hg p4 p5 hb;have p9:=gA w hg;have r5:=gA w hg;have r6:=nl hg l9;have r7:=ng hg l9;replace l5:=rB l5 hb;replace l6:=rB l6 hb;replace o8:=rB o8 hb;replace o9:=rB o9 hb;replace l9:=kb l9 hb;replace HB:=bB hb;clear hb hg;have r8:=r7.out;have r9:=r6.out;obtain⟨t6,t7,t8,z1,z2,z6⟩:=bk3 p5;obtain⟨z7,z8,rfl⟩:=Kd.R_slice o8.out;obtain⟨B0,B5,rfl⟩:=Kd.R_slice o9.out))
  repeat(go_quiet (first|(go_at_call 20;(with_reducible refine(Czz.calls k _ _ l0 e7 e8 e9 f3 _ ?_ ?_ f6.out).mono ?_);exact cX b6.out;exact b7.out;rintro e j5 ⟨j6,j7,rfl,j8,j9,hb⟩;have l5:=rL j8;have l6:=rL j9;replace HB:=bB hb;clear hb j8 j9)|((with_reducible refine gd 5 rfl ?_);refine bxg #[.bool false,.slice none 0 0,.slice none 0 0] 38 ?_;intro l7 hg l8 l9 hb;have m0:=gA w hg;have m2:=gA w hg;replace l5:=rB l5 hb;replace l6:=rB l6 hb;replace HB:=bB hb;clear hb hg;obtain⟨m3,m4,m5,m6,m7,m8⟩:=bk3 l9;obtain⟨m9,n0,rfl⟩:=Kd.R_slice l5.out;obtain⟨n6,n7,rfl⟩:=Kd.R_slice l6.out)|(go_at_call 23;(with_reducible refine(Azb.calls k _ _ l0 f9 g4 g5 g6 _ ?_ ?_ g8.out).mono ?_);exact Kd.C_below b6.out pB;exact b7.out;rintro e n8 ⟨n9,o0,rfl,j8,j9,hb⟩;have o8:=rL (Kd.R_new' (Kd.R_new' j8 (Kd.R_lt (rT l5 l9))) (Kd.R_lt (rT l6 l9)));have o9:=rL (Kd.R_new' (Kd.R_new' j9 (Kd.R_lt (rT l5 l9))) (Kd.R_lt (rT l6 l9)));replace l5:=ro (rT l5 l9) hb j8 j9;replace l6:=ro (rT l6 l9) hb j8 j9;replace l9:=kP (o':=.cells #[.bool e7,.slice m9 e8.length n0,.slice n6 e9.length n7] 38 (0,0)) l9 hb;replace HB:=bB hb;clear hb j8 j9)|((with_reducible refine gd 7 rfl ?_);refine bxg #[.bool false,.slice none 0 0,.slice none 0 0] 38 ?_;intro p0 hg p4 p5 hb;have p9:=gA w hg;have r5:=gA w hg;have r6:=nl hg l9;have r7:=ng hg l9;replace l5:=rB l5 hb;replace l6:=rB l6 hb;replace o8:=rB o8 hb;replace o9:=rB o9 hb;replace l9:=kb l9 hb;replace HB:=bB hb;clear hb hg;have r8:=r7.out;have r9:=r6.out;obtain⟨t6,t7,t8,z1,z2,z6⟩:=bk3 p5;obtain⟨z7,z8,rfl⟩:=Kd.R_slice o8.out;obtain⟨B0,B5,rfl⟩:=Kd.R_slice o9.out));go_upto_region 5 with (first|(go_at_call 20;(with_reducible refine(Czz.calls k _ _ l0 e7 e8 e9 f3 _ ?_ ?_ f6.out).mono ?_);exact cX b6.out;exact b7.out;rintro e j5 ⟨j6,j7,rfl,j8,j9,hb⟩;have l5:=rL j8;have l6:=rL j9;replace HB:=bB hb;clear hb j8 j9)|((with_reducible refine gd 5 rfl ?_);refine bxg #[.bool false,.slice none 0 0,.slice none 0 0] 38 ?_;intro l7 hg l8 l9 hb;have m0:=gA w hg;have m2:=gA w hg;replace l5:=rB l5 hb;replace l6:=rB l6 hb;replace HB:=bB hb;clear hb hg;obtain⟨m3,m4,m5,m6,m7,m8⟩:=bk3 l9;obtain⟨m9,n0,rfl⟩:=Kd.R_slice l5.out;obtain⟨n6,n7,rfl⟩:=Kd.R_slice l6.out)|(go_at_call 23;(with_reducible refine(Azb.calls k _ _ l0 f9 g4 g5 g6 _ ?_ ?_ g8.out).mono ?_);exact Kd.C_below b6.out pB;exact b7.out;rintro e n8 ⟨n9,o0,rfl,j8,j9,hb⟩;have o8:=rL (Kd.R_new' (Kd.R_new' j8 (Kd.R_lt (rT l5 l9))) (Kd.R_lt (rT l6 l9)));have o9:=rL (Kd.R_new' (Kd.R_new' j9 (Kd.R_lt (rT l5 l9))) (Kd.R_lt (rT l6 l9)));replace l5:=ro (rT l5 l9) hb j8 j9;replace l6:=ro (rT l6 l9) hb j8 j9;replace l9:=kP (o':=.cells #[.bool e7,.slice m9 e8.length n0,.slice n6 e9.length n7] 38 (0,0)) l9 hb;replace HB:=bB hb;clear hb j8 j9)|((with_reducible refine gd 7 rfl ?_);refine bxg #[.bool false,.slice none 0 0,.slice none 0 0] 38 ?_;intro p0 hg p4 p5 hb;have p9:=gA w hg;have r5:=gA w hg;have r6:=nl hg l9;have r7:=ng hg l9;replace l5:=rB l5 hb;replace l6:=rB l6 hb;replace o8:=rB o8 hb;replace o9:=rB o9 hb;replace l9:=kb l9 hb;replace HB:=bB hb;clear hb hg;have r8:=r7.out;have r9:=r6.out;obtain⟨t6,t7,t8,z1,z2,z6⟩:=bk3 p5;obtain⟨z7,z8,rfl⟩:=Kd.R_slice o8.out;obtain⟨B0,B5,rfl⟩:=Kd.R_slice o9.out)))
  (try simp only[Act.put,sA,sZ,sC])
  go_cut [49] (fun B6 wc=>∃ (kq:Nat) (B8:Bool),B6=.bool B8∧Aside0 (papermilllaw60_StatsMoves.j0 kq l0 a8 f3 g6 B8 e7 e8 e9 f9 g4 g5=some r)∧Aside0 (kq≤k)∧Aside0 (Kd.R (Kd.int .i64) 3 wc w.heap.size (fun k_=>some k_≠((.slice n6 e9.length n7):Value).ownBlock∧some k_≠((.slice z7 g4.length z8):Value).ownBlock∧some k_≠((.slice B0 g5.length B5):Value).ownBlock) (.slice m9 e8.length n0) e8)∧Aside0 (Kd.R (Kd.int .i64) 3 wc w.heap.size (fun k_=>some k_≠((.slice m9 e8.length n0):Value).ownBlock∧some k_≠((.slice z7 g4.length z8):Value).ownBlock∧some k_≠((.slice B0 g5.length B5):Value).ownBlock) (.slice n6 e9.length n7) e9)∧Aside0 (Kd.R (Kd.int .i64) 3 wc w.heap.size (fun k_=>some k_≠((.slice m9 e8.length n0):Value).ownBlock∧some k_≠((.slice n6 e9.length n7):Value).ownBlock∧some k_≠((.slice B0 g5.length B5):Value).ownBlock) (.slice z7 g4.length z8) g4)∧Aside0 (Kd.R (Kd.int .i64) 3 wc w.heap.size (fun k_=>some k_≠((.slice m9 e8.length n0):Value).ownBlock∧some k_≠((.slice n6 e9.length n7):Value).ownBlock∧some k_≠((.slice z7 g4.length z8):Value).ownBlock) (.slice B0 g5.length B5) g5)∧Aside0 (wc.heap[l7]?=some (.cells #[.bool e7,(.slice m9 e8.length n0),(.slice n6 e9.length n7)] 38 (0,0)))∧Aside0 (wc.heap[p0]?=some (.cells #[.bool f9,(.slice z7 g4.length z8),(.slice B0 g5.length B5)] 38 (0,0)))∧Aside0 (Below w.heap.size w wc))
  case first =>
   have H:=g9.out;clear g9;by_cases B9:f3=0
   ·rw[if_pos B9] at H;have C0:(f3 == 0)=true:=beq_iff_eq.mpr B9;have C1:(f3 != 0)=false:=bne_eq_false_iff_eq.mpr B9;clear B9;(first|rw[C0]|(simp only[i64_w,i32_w];rw[C0])|skip)
    have H':=aM H;clear H;go_wp2
    repeat(go_quiet (fail);try go_wp2)
    go_meet
    case rel=>exact⟨_,((g6 != 0)),sD,H',⟨by first|omega|exact Nat.le_refl _⟩,⟨by exact Kd.R_mono (rT l5 p5) (fun _ hk=>⟨hk.1.1,⟨hk.1.2,hk.2⟩⟩)⟩,⟨by exact Kd.R_mono (rT l6 p5) (fun _ hk=>⟨hk.1.1,⟨hk.1.2,hk.2⟩⟩)⟩,⟨by exact Kd.R_mono (rT o8 p5) (fun _ hk=>⟨hk.1.2,⟨hk.2,hk.1.1⟩⟩)⟩,⟨by exact Kd.R_mono (rT o9 p5) (fun _ hk=>⟨hk.1.2,⟨hk.2,hk.1.1⟩⟩)⟩,⟨by exact kf l9 r6⟩,⟨by exact kQ p5⟩,⟨pB⟩⟩
   ·rw[if_neg B9] at H;have C0:(f3 == 0)=false:=beq_eq_false_iff_ne.mpr B9;have C1:(f3 != 0)=true:=bne_iff_ne.mpr B9;(first|rw[C0]|(simp only[i64_w,i32_w];rw[C0])|skip)
    have H':=aM H;clear H;go_wp2
    repeat(go_quiet (fail);try go_wp2)
    go_meet
    case rel=>exact⟨_,(true),sD,H',⟨by first|omega|exact Nat.le_refl _⟩,⟨by exact Kd.R_mono (rT l5 p5) (fun _ hk=>⟨hk.1.1,⟨hk.1.2,hk.2⟩⟩)⟩,⟨by exact Kd.R_mono (rT l6 p5) (fun _ hk=>⟨hk.1.1,⟨hk.1.2,hk.2⟩⟩)⟩,⟨by exact Kd.R_mono (rT o8 p5) (fun _ hk=>⟨hk.1.2,⟨hk.2,hk.1.1⟩⟩)⟩,⟨by exact Kd.R_mono (rT o9 p5) (fun _ hk=>⟨hk.1.2,⟨hk.2,hk.1.1⟩⟩)⟩,⟨by exact kf l9 r6⟩,⟨by exact kQ p5⟩,⟨pB⟩⟩
  case rest=>as_aux_lemma =>
   clear g9;try clear C2
   try clear c2
   try clear C3
   try clear c3
   try clear d6
   try clear d7
   try clear c9
   try clear C4
   try clear B9
   try clear C0
   try clear C1
   try clear m3
   try clear m4
   try clear m5
   try clear t6
   try clear t7
   try clear t8
   try clear m6
   try clear m7
   try clear m8
   try clear z1
   try clear z2
   try clear z6
   obtain⟨kq,B8,rfl,HA,C6,C7,C8,C9,D0,l9,p5,HB⟩:=hcut;cases kq with
   | zero=>exact absurd HA.out (by simp [papermilllaw60_StatsMoves.j0])
   | succ D1 =>
    have H:=HA.out;clear HA;simp only[papermilllaw60_StatsMoves.j0] at H;by_cases D2:B8=true
    ·subst D2;rw[if_pos rfl] at H;obtain⟨D3,H⟩:=iO H;have D4:(f3 == g6)=true:=beq_iff_eq.mpr D3;have D5:(f3 != g6)=false:=bne_eq_false_iff_eq.mpr D3;clear D3;replace H:=bS H;obtain⟨D6,D7,H⟩:=H;try dsimp only at H
     have D8:=aM D7;clear D7;obtain rfl:=Option.some.inj H;have fl_:True:=trivial;repeat((first|clear fl_|go_quiet (first|(go_at_call 10;(with_reducible refine(Azz.calls D1  D6 _ D8.out).mono ?_);rintro e D9 ⟨rfl,hb⟩;replace C7:=rB C7 hb;replace C8:=rB C8 hb;replace C9:=rB C9 hb;replace D0:=rB D0 hb;replace l9:=kb l9 hb;replace p5:=kb p5 hb;replace HB:=bB hb;clear hb)));go_wp2_with (first|(go_at_call 10;(with_reducible refine(Azz.calls D1  D6 _ D8.out).mono ?_);rintro e D9 ⟨rfl,hb⟩;replace C7:=rB C7 hb;replace C8:=rB C8 hb;replace C9:=rB C9 hb;replace D0:=rB D0 hb;replace l9:=kb l9 hb;replace p5:=kb p5 hb;replace HB:=bB hb;clear hb)))
     go_ret
     exact⟨eW,pB⟩
    ·obtain rfl:=bN D2;rw[if_neg nF] at H
     by_cases E0:0 < (l0.length:Int)
     ·rw[if_pos E0] at H;have E1:=dE E0;have E2:decide (0 < l0.length)=true:=dE (by omega)
      clear E0;have H':=aM H;clear H;have E3:0≤(0:Int):=(by omega)
      have E4:0 < (l0.length:Int):=oE aS
      obtain⟨E5,E6,E7⟩:=Kd.at_int b6.out 0 E3 E4;cases E6
      have E8:(0 < l0.length)=True:=eq_true (by omega)
      (try rw[show((0:Int)).toNat=0 from rfl] at E7)
      (try rw[Addr.add_zero'] at E7)
      replace E7:=hB HB E7;replace E3:=eq_true E3;replace E4:=eq_true E4;have E9:0≤(0:Int):=(by omega)
      have F0:0 < (l0.length:Int):=oE aS
      obtain⟨F1,F2,F3⟩:=Kd.at_int b6.out 0 E9 F0;obtain rfl:E5=F1:=(by injection F2)
      have F4:(0 < l0.length)=True:=eq_true (by omega)
      (try rw[show((0:Int)).toNat=0 from rfl] at F3)
      (try rw[Addr.add_zero'] at F3)
      replace F3:=hB HB F3;replace E9:=eq_true E9;replace F0:=eq_true F0;go_wp2
      repeat(go_quiet (fail);try go_wp2)
      go_loopg [9,10,11] D1 (fun kq F5 F6 F7 w'=>∃ (F8:Int) (F9:Int) (G0:Int),F5=.int .i64 F8∧F6=.int .i64 F9∧F7=.int .i64 G0∧Aside0 (papermilllaw60_StatsMoves.l0 kq l0 a8 F8 F9 G0 e7 e8 e9 f9 g4 g5=some r)∧Aside0 (kq≤D1)∧Aside0 (Kd.R (Kd.int .i64) 3 w' w.heap.size (fun k_=>some k_≠((.slice n6 e9.length n7):Value).ownBlock∧some k_≠((.slice z7 g4.length z8):Value).ownBlock∧some k_≠((.slice B0 g5.length B5):Value).ownBlock) (.slice m9 e8.length n0) e8)∧Aside0 (Kd.R (Kd.int .i64) 3 w' w.heap.size (fun k_=>some k_≠((.slice m9 e8.length n0):Value).ownBlock∧some k_≠((.slice z7 g4.length z8):Value).ownBlock∧some k_≠((.slice B0 g5.length B5):Value).ownBlock) (.slice n6 e9.length n7) e9)∧Aside0 (Kd.R (Kd.int .i64) 3 w' w.heap.size (fun k_=>some k_≠((.slice m9 e8.length n0):Value).ownBlock∧some k_≠((.slice n6 e9.length n7):Value).ownBlock∧some k_≠((.slice B0 g5.length B5):Value).ownBlock) (.slice z7 g4.length z8) g4)∧Aside0 (Kd.R (Kd.int .i64) 3 w' w.heap.size (fun k_=>some k_≠((.slice m9 e8.length n0):Value).ownBlock∧some k_≠((.slice n6 e9.length n7):Value).ownBlock∧some k_≠((.slice z7 g4.length z8):Value).ownBlock) (.slice B0 g5.length B5) g5)∧Aside0 (w'.heap[l7]?=some (.cells #[.bool e7,(.slice m9 e8.length n0),(.slice n6 e9.length n7)] 38 (0,0)))∧Aside0 (w'.heap[p0]?=some (.cells #[.bool f9,(.slice z7 g4.length z8),(.slice B0 g5.length B5)] 38 (0,0)))∧Aside0 (Below w.heap.size w w'))
      case atStart=>exact⟨(rd l0 0),(rd l0 0),(0),sD,sD,sD,H',⟨Nat.le_refl _⟩,⟨rX C7.out⟩,⟨rX C8.out⟩,⟨rX C9.out⟩,⟨rX D0.out⟩,⟨by exact kW l9⟩,⟨by exact kW p5⟩,⟨pB⟩⟩
      case round =>
       clear H';try clear C2
       try clear c2
       try clear C3
       try clear c3
       try clear d6
       try clear d7
       try clear G4
       try clear q7
       try clear G5
       try clear G6
       try clear c9
       try clear C4
       try clear B9
       try clear C0
       try clear C1
       try clear D2
       try clear D3
       try clear D4
       try clear D5
       try clear E0
       try clear E1
       try clear E2
       try clear m3
       try clear m4
       try clear m5
       try clear t6
       try clear t7
       try clear t8
       try clear m6
       try clear m7
       try clear m8
       try clear z1
       try clear z2
       try clear z6
       try clear E7
       try clear F3
       try clear C3
       try clear E3
       try clear E9
       try clear E4
       try clear F0
       obtain⟨F8,F9,G0,rfl,rfl,rfl,HA,G7,C7,C8,C9,D0,l9,p5,HB⟩:=hrel;cases gk with
       | zero=>exact absurd HA.out (by simp [papermilllaw60_StatsMoves.l0])
       | succ k2 =>
        have H:=HA.out;clear HA;simp only[papermilllaw60_StatsMoves.l0] at H;by_cases G8:G0 < (l0.length:Int)
        ·rw[if_pos G8] at H;have G9:=dE G8;clear G8;obtain⟨H5,H⟩:=iN H;obtain⟨H6,H7⟩:∃ j_:Int,(mn F8 (rd l0 G0))=j_:=⟨_,rfl⟩;replace H:(papermilllaw60_StatsMoves.l0 k2 l0 a8 H6 (mx F9 (rd l0 G0)) (wrap64 (G0+1)) e7 e8 e9 f9 g4 g5)=some r:=by first|(rw[H7] at H;exact H)|(simp only[H7] at H ⊢;exact H)
         have H8:(if(rd l0 G0) < F8 then(rd l0 G0) else F8)=H6:=H7
         obtain⟨H9,I0⟩:∃ j_:Int,(mx F9 (rd l0 G0))=j_:=⟨_,rfl⟩;replace H:(papermilllaw60_StatsMoves.l0 k2 l0 a8 H6 H9 (wrap64 (G0+1)) e7 e8 e9 f9 g4 g5)=some r:=by first|(rw[I0] at H;exact H)|(simp only[I0] at H ⊢;exact H)
         have I1:(if F9 < (rd l0 G0) then(rd l0 G0) else F9)=H9:=I0
         have H':=aM H;clear H;obtain⟨I2,I3,I4,I5,I6⟩:=aI b6.out G0;obtain rfl:E5=I2:=(by injection I3)
         replace I4:=hB HB I4;obtain⟨I7,I8,I9,J0,J1⟩:=aI b6.out G0;obtain rfl:E5=I7:=(by injection I8)
         replace I9:=hB HB I9;go_wp2
         repeat(go_quiet (fail);try go_wp2)
         go_roundg k2
         case measure=>have:=C6.out;have:=G7.out;omega
         case rel=>exact⟨(H6),(H9),(wrap64 (G0+1)),(by first|rfl|(simp;done)|(simp only[← H7] <;> (first|rfl|simp))|(simp [*];done)),(by first|rfl|(simp;done)|(simp only[← I0] <;> (first|rfl|simp))|(simp [*];done)),sD,H',⟨by have:=C6.out;have:=G7.out;omega⟩,⟨rX C7.out⟩,⟨rX C8.out⟩,⟨rX C9.out⟩,⟨rX D0.out⟩,⟨by exact kW l9⟩,⟨by exact kW p5⟩,⟨pB⟩⟩
        ·rw[if_neg G8] at H;have G9:decide (G0 < (l0.length:Int))=false:=decide_eq_false G8;clear G8;replace H:=bS H;obtain⟨⟨J2,J3⟩,J4,H⟩:=H;try dsimp only at H
         have J5:=aM J4;clear J4;replace H:=bS H;obtain⟨⟨J6,J7⟩,J8,H⟩:=H;try dsimp only at H
         have J9:=aM J8;clear J8;have K0:=aM H;clear H;have K1:=r6.out;have K2:=r7.out;obtain⟨K3,K4,K5,K6,K7,K8⟩:=bk3 l9;go_upto_region 14 with (first|(go_at_call 24;(with_reducible refine(Ezz.calls k2 e7 _ _ e8 _ _ e9 J2 J3 _ ?_ ?_ ?_ ?_ J5.out).mono ?_);exact cR C7;exact lR C7;exact cR C8;exact lR C8;rintro e K9 ⟨rfl,hb⟩;replace C7:=rB C7 hb;replace C8:=rB C8 hb;replace C9:=rB C9 hb;replace D0:=rB D0 hb;replace l9:=kb l9 hb;replace p5:=kb p5 hb;replace HB:=bB hb;clear hb;obtain⟨L0,L5,L6,L7,L8,L9⟩:=bk3 l9)|(go_at_call 25;(with_reducible refine(Ezx.calls k2 e7 _ _ e8 _ _ e9 J6 J7 _ ?_ ?_ ?_ ?_ J9.out).mono ?_);exact cR C7;exact lR C7;exact cR C8;exact lR C8;rintro e M0 ⟨rfl,hb⟩;replace C7:=rB C7 hb;replace C8:=rB C8 hb;replace C9:=rB C9 hb;replace D0:=rB D0 hb;replace l9:=kb l9 hb;replace p5:=kb p5 hb;replace HB:=bB hb;clear hb))
         repeat(go_quiet (first|(go_at_call 24;(with_reducible refine(Ezz.calls k2 e7 _ _ e8 _ _ e9 J2 J3 _ ?_ ?_ ?_ ?_ J5.out).mono ?_);exact cR C7;exact lR C7;exact cR C8;exact lR C8;rintro e K9 ⟨rfl,hb⟩;replace C7:=rB C7 hb;replace C8:=rB C8 hb;replace C9:=rB C9 hb;replace D0:=rB D0 hb;replace l9:=kb l9 hb;replace p5:=kb p5 hb;replace HB:=bB hb;clear hb;obtain⟨L0,L5,L6,L7,L8,L9⟩:=bk3 l9)|(go_at_call 25;(with_reducible refine(Ezx.calls k2 e7 _ _ e8 _ _ e9 J6 J7 _ ?_ ?_ ?_ ?_ J9.out).mono ?_);exact cR C7;exact lR C7;exact cR C8;exact lR C8;rintro e M0 ⟨rfl,hb⟩;replace C7:=rB C7 hb;replace C8:=rB C8 hb;replace C9:=rB C9 hb;replace D0:=rB D0 hb;replace l9:=kb l9 hb;replace p5:=kb p5 hb;replace HB:=bB hb;clear hb));go_upto_region 14 with (first|(go_at_call 24;(with_reducible refine(Ezz.calls k2 e7 _ _ e8 _ _ e9 J2 J3 _ ?_ ?_ ?_ ?_ J5.out).mono ?_);exact cR C7;exact lR C7;exact cR C8;exact lR C8;rintro e K9 ⟨rfl,hb⟩;replace C7:=rB C7 hb;replace C8:=rB C8 hb;replace C9:=rB C9 hb;replace D0:=rB D0 hb;replace l9:=kb l9 hb;replace p5:=kb p5 hb;replace HB:=bB hb;clear hb;obtain⟨L0,L5,L6,L7,L8,L9⟩:=bk3 l9)|(go_at_call 25;(with_reducible refine(Ezx.calls k2 e7 _ _ e8 _ _ e9 J6 J7 _ ?_ ?_ ?_ ?_ J9.out).mono ?_);exact cR C7;exact lR C7;exact cR C8;exact lR C8;rintro e M0 ⟨rfl,hb⟩;replace C7:=rB C7 hb;replace C8:=rB C8 hb;replace C9:=rB C9 hb;replace D0:=rB D0 hb;replace l9:=kb l9 hb;replace p5:=kb p5 hb;replace HB:=bB hb;clear hb)))
         (try simp only[Act.put,sA,sZ,sC])
         go_cut [119] (fun M1 wc=>∃ (kq:Nat) (M2:Bool),M1=.bool M2∧Aside0 (papermilllaw60_StatsMoves.j2 kq l0 a8 F8 F9 M2 e7 e8 e9 f9 g4 g5=some r)∧Aside0 (kq≤k2)∧Aside0 (Kd.R (Kd.int .i64) 3 wc w.heap.size (fun k_=>some k_≠((.slice n6 e9.length n7):Value).ownBlock∧some k_≠((.slice z7 g4.length z8):Value).ownBlock∧some k_≠((.slice B0 g5.length B5):Value).ownBlock) (.slice m9 e8.length n0) e8)∧Aside0 (Kd.R (Kd.int .i64) 3 wc w.heap.size (fun k_=>some k_≠((.slice m9 e8.length n0):Value).ownBlock∧some k_≠((.slice z7 g4.length z8):Value).ownBlock∧some k_≠((.slice B0 g5.length B5):Value).ownBlock) (.slice n6 e9.length n7) e9)∧Aside0 (Kd.R (Kd.int .i64) 3 wc w.heap.size (fun k_=>some k_≠((.slice m9 e8.length n0):Value).ownBlock∧some k_≠((.slice n6 e9.length n7):Value).ownBlock∧some k_≠((.slice B0 g5.length B5):Value).ownBlock) (.slice z7 g4.length z8) g4)∧Aside0 (Kd.R (Kd.int .i64) 3 wc w.heap.size (fun k_=>some k_≠((.slice m9 e8.length n0):Value).ownBlock∧some k_≠((.slice n6 e9.length n7):Value).ownBlock∧some k_≠((.slice z7 g4.length z8):Value).ownBlock) (.slice B0 g5.length B5) g5)∧Aside0 (wc.heap[l7]?=some (.cells #[.bool e7,(.slice m9 e8.length n0),(.slice n6 e9.length n7)] 38 (0,0)))∧Aside0 (wc.heap[p0]?=some (.cells #[.bool f9,(.slice z7 g4.length z8),(.slice B0 g5.length B5)] 38 (0,0)))∧Aside0 (Below w.heap.size w wc))
         case first =>
          have H:=K0.out;clear K0;by_cases M3:J3=0
          ·rw[if_pos M3] at H;have M4:(J3 == 0)=true:=beq_iff_eq.mpr M3;have M5:(J3 != 0)=false:=bne_eq_false_iff_eq.mpr M3;clear M3;(first|rw[M4]|(simp only[i64_w,i32_w];rw[M4])|skip)
           by_cases M6:J7=0
           ·rw[if_pos M6] at H;have M7:(J7 == 0)=true:=beq_iff_eq.mpr M6;have M8:(J7 != 0)=false:=bne_eq_false_iff_eq.mpr M6;clear M6;by_cases M9:J2 < F8
            ·rw[if_pos M9] at H;have N0:=dE M9;clear M9;have H':=aM H;clear H;go_wp2
             repeat(go_quiet (fail);try go_wp2)
             go_meet
             case rel=>exact⟨_,(true),sD,H',⟨by have:=C6.out;have:=G7.out;first|omega|exact Nat.le_refl _⟩,⟨rX C7.out⟩,⟨rX C8.out⟩,⟨rX C9.out⟩,⟨rX D0.out⟩,⟨by exact kW l9⟩,⟨by exact kW p5⟩,⟨pB⟩⟩
            ·rw[if_neg M9] at H;have N0:decide (J2 < F8)=false:=decide_eq_false M9;clear M9;by_cases N1:J6 > F9
             ·rw[if_pos N1] at H;have N2:decide (F9 < J6)=true:=dE N1;clear N1;have H':=aM H;clear H;go_wp2
              repeat(go_quiet (fail);try go_wp2)
              go_meet
              case rel=>exact⟨_,(true),sD,H',⟨by have:=C6.out;have:=G7.out;first|omega|exact Nat.le_refl _⟩,⟨rX C7.out⟩,⟨rX C8.out⟩,⟨rX C9.out⟩,⟨rX D0.out⟩,⟨by exact kW l9⟩,⟨by exact kW p5⟩,⟨pB⟩⟩
             ·rw[if_neg N1] at H;have N2:decide (F9 < J6)=false:=decide_eq_false N1;clear N1;by_cases N3:f9=true
              ·subst N3;rw[if_pos rfl] at H;have H':=aM H;clear H;have N4:=r7.out;have N5:=r6.out;obtain⟨N6,N7,N8,N9,O0,O1⟩:=bk3 p5;go_wp2
               repeat(go_quiet (fail);try go_wp2)
               go_meet
               case rel=>exact⟨_,(true),sD,H',⟨by have:=C6.out;have:=G7.out;first|omega|exact Nat.le_refl _⟩,⟨rX C7.out⟩,⟨rX C8.out⟩,⟨rX C9.out⟩,⟨rX D0.out⟩,⟨by exact kW l9⟩,⟨by exact kW p5⟩,⟨pB⟩⟩
              ·obtain rfl:=bN N3;rw[if_neg nF] at H
               have H':=aM H;clear H;have O2:=r7.out;have O3:=r6.out;obtain⟨O4,O5,O6,O7,O8,O9⟩:=bk3 p5;go_wp2
               repeat(go_quiet (fail);try go_wp2)
               go_meet
               case rel=>exact⟨_,((((g4.length:Int) == 0) != (F8 == F9))),sD,H',⟨by have:=C6.out;have:=G7.out;first|omega|exact Nat.le_refl _⟩,⟨rX C7.out⟩,⟨rX C8.out⟩,⟨rX C9.out⟩,⟨rX D0.out⟩,⟨by exact kW l9⟩,⟨by exact kW p5⟩,⟨pB⟩⟩
           ·rw[if_neg M6] at H;have M7:(J7 == 0)=false:=beq_eq_false_iff_ne.mpr M6;have M8:(J7 != 0)=true:=bne_iff_ne.mpr M6;have H':=aM H;clear H;go_wp2
            repeat(go_quiet (fail);try go_wp2)
            go_meet
            case rel=>exact⟨_,(true),sD,H',⟨by have:=C6.out;have:=G7.out;first|omega|exact Nat.le_refl _⟩,⟨rX C7.out⟩,⟨rX C8.out⟩,⟨rX C9.out⟩,⟨rX D0.out⟩,⟨by exact kW l9⟩,⟨by exact kW p5⟩,⟨pB⟩⟩
          ·rw[if_neg M3] at H;have M4:(J3 == 0)=false:=beq_eq_false_iff_ne.mpr M3;have M5:(J3 != 0)=true:=bne_iff_ne.mpr M3;(first|rw[M4]|(simp only[i64_w,i32_w];rw[M4])|skip)
           have H':=aM H;clear H;go_wp2
           repeat(go_quiet (fail);try go_wp2)
           go_meet
           case rel=>exact⟨_,(true),sD,H',⟨by have:=C6.out;have:=G7.out;first|omega|exact Nat.le_refl _⟩,⟨rX C7.out⟩,⟨rX C8.out⟩,⟨rX C9.out⟩,⟨rX D0.out⟩,⟨by exact kW l9⟩,⟨by exact kW p5⟩,⟨pB⟩⟩
         case rest=>as_aux_lemma =>
          clear K0;try clear C2
          try clear c2
          try clear C3
          try clear c3
          try clear d6
          try clear d7
          try clear c4
          try clear P2
          try clear G4
          try clear q7
          try clear G5
          try clear G6
          try clear c9
          try clear C4
          try clear B9
          try clear C0
          try clear C1
          try clear D2
          try clear D3
          try clear D4
          try clear D5
          try clear E0
          try clear E1
          try clear E2
          try clear G8
          try clear G9
          try clear P3
          try clear H5
          try clear P4
          try clear M3
          try clear M4
          try clear M5
          try clear M6
          try clear M7
          try clear M8
          try clear M9
          try clear N0
          try clear N1
          try clear N2
          try clear N3
          try clear P5
          try clear P6
          try clear m3
          try clear m4
          try clear m5
          try clear t6
          try clear t7
          try clear t8
          try clear K3
          try clear K4
          try clear K5
          try clear L0
          try clear L5
          try clear L6
          try clear N6
          try clear N7
          try clear N8
          try clear O4
          try clear O5
          try clear O6
          try clear m6
          try clear m7
          try clear m8
          try clear z1
          try clear z2
          try clear z6
          try clear K6
          try clear K7
          try clear K8
          try clear L7
          try clear L8
          try clear L9
          try clear N9
          try clear O0
          try clear O1
          try clear O7
          try clear O8
          try clear O9
          try clear E7
          try clear F3
          try clear I4
          try clear I9
          try clear C3
          try clear G4
          try clear E3
          try clear E9
          try clear I5
          try clear J0
          try clear q7
          try clear E4
          try clear F0
          try clear I6
          try clear J1
          obtain⟨kq,M2,rfl,HA,P7,C7,C8,C9,D0,l9,p5,HB⟩:=hcut;cases kq with
          | zero=>exact absurd HA.out (by simp [papermilllaw60_StatsMoves.j2])
          | succ P8 =>
           have H:=HA.out;clear HA;simp only[papermilllaw60_StatsMoves.j2] at H;by_cases P9:M2=true
           ·subst P9;rw[if_pos rfl] at H;exact absurd H (by simp)
           ·obtain rfl:=bN P9;rw[if_neg nF] at H
            replace H:=bS H;obtain⟨Q0,Q1,H⟩:=H;try dsimp only at H
            have Q2:=aM Q1;clear Q1;replace H:=bS H;obtain⟨⟨Q3,Q4,Q5,Q6⟩,Q7,H⟩:=H;try dsimp only at H
            have Q8:=aM Q7;clear Q7;replace H:=bS H;obtain⟨Q9,R0,H⟩:=H;try dsimp only at H
            have R1:=aM R0;clear R0;replace H:=bS H;obtain⟨⟨R2,R3,R4,R5⟩,R6,H⟩:=H;try dsimp only at H
            have R7:=aM R6;clear R6;replace H:=bS H;obtain⟨⟨R8,R9,U0,U1⟩,U2,H⟩:=H;try dsimp only at H
            have U3:=aM U2;clear U2;have U4:=aM H;clear H;go_upto_region 19 with (first|(go_at_call 22;(with_reducible refine(Azw.calls P8 _ _ l0 0 Q0 _ ?_ ?_ Q2.out).mono ?_);exact cB b6;exact b7.out;rintro e U5 ⟨U6,rfl,j8,hb⟩;have U7:=rL (rn (rn (rn (rn j8 C7) C8) C9) D0);replace C7:=rE C7 j8 hb;replace C8:=rE C8 j8 hb;replace C9:=rE C9 j8 hb;replace D0:=rE D0 j8 hb;replace l9:=kb l9 hb;replace p5:=kb p5 hb;replace HB:=bB hb;clear hb j8;obtain⟨U8,U9,rfl⟩:=Kd.R_slice U7.out)|(go_at_call 20;(with_reducible refine(Czz.calls P8 _ _ Q0 Q3 Q4 Q5 Q6 _ ?_ ?_ Q8.out).mono ?_);exact cR U7;exact lR U7;rintro e V0 ⟨V1,V2,rfl,j8,j9,hb⟩;have V3:=rL (rn (rn (rn (rn (rn j8 C7) C8) C9) D0) U7);have V4:=rL (rn (rn (rn (rn (rn j9 C7) C8) C9) D0) U7);replace C7:=rO C7 hb j8 j9;replace C8:=rO C8 hb j8 j9;replace C9:=rO C9 hb j8 j9;replace D0:=rO D0 hb j8 j9;replace U7:=rO U7 hb j8 j9;replace l9:=kb l9 hb;replace p5:=kb p5 hb;replace HB:=bB hb;clear hb j8 j9)|((with_reducible refine gd 16 rfl ?_);refine bxg #[.bool false,.slice none 0 0,.slice none 0 0] 38 ?_;intro V5 hg V6 V7 hb;have V8:=gA w hg;have V9:=gA w hg;have W0:=nl hg l9;have W4:=ng hg l9;have W5:=nl hg p5;have W6:=ng hg p5;replace C7:=rB C7 hb;replace C8:=rB C8 hb;replace C9:=rB C9 hb;replace D0:=rB D0 hb;replace U7:=rB U7 hb;replace V3:=rB V3 hb;replace V4:=rB V4 hb;replace l9:=kb l9 hb;replace p5:=kb p5 hb;replace HB:=bB hb;clear hb hg;have W7:=W4.out;have W8:=W0.out;have W9:=W6.out;have X0:=W5.out;obtain⟨X1,X2,X3,X4,X5,X6⟩:=bk3 V7;obtain⟨X7,X8,rfl⟩:=Kd.R_slice V3.out;obtain⟨X9,Y0,rfl⟩:=Kd.R_slice V4.out)|(go_at_call 22;(with_reducible refine(Azw.calls P8 _ _ l0 0 Q9 _ ?_ ?_ R1.out).mono ?_);exact Kd.C_below b6.out pB;exact b7.out;rintro e Y1 ⟨Y2,rfl,j8,hb⟩;have Y3:=rL (Kd.R_new' (Kd.R_new' (Kd.R_new' (Kd.R_new' (Kd.R_new' (Kd.R_new' (Kd.R_new' j8 (Kd.R_lt (rT C7 V7))) (Kd.R_lt (rT C8 V7))) (Kd.R_lt (rT C9 V7))) (Kd.R_lt (rT D0 V7))) (Kd.R_lt (rT U7 V7))) (Kd.R_lt (rT V3 V7))) (Kd.R_lt (rT V4 V7)));replace C7:=re (rT C7 V7) j8 hb;replace C8:=re (rT C8 V7) j8 hb;replace C9:=re (rT C9 V7) j8 hb;replace D0:=re (rT D0 V7) j8 hb;replace U7:=re (rT U7 V7) j8 hb;replace V3:=re (rT V3 V7) j8 hb;replace V4:=re (rT V4 V7) j8 hb;replace l9:=kF l9 W0 hb;replace p5:=kF p5 W5 hb;replace V7:=kP (o':=.cells #[.bool Q3,.slice X7 Q4.length X8,.slice X9 Q5.length Y0] 38 (0,0)) V7 hb;replace HB:=bB hb;clear hb j8;obtain⟨Y4,Y5,rfl⟩:=Kd.R_slice Y3.out)|(go_at_call 23;(with_reducible refine(Azb.calls P8 _ _ Q9 R2 R3 R4 R5 _ ?_ ?_ R7.out).mono ?_);exact cR Y3;exact lR Y3;rintro e Y6 ⟨Y7,Y8,rfl,j8,j9,hb⟩;have Y9:=rL (rn (rn (rn (rn (rn (rn (rn (rn j8 C7) C8) C9) D0) U7) V3) V4) Y3);have Z0:=rL (rn (rn (rn (rn (rn (rn (rn (rn j9 C7) C8) C9) D0) U7) V3) V4) Y3);replace C7:=rO C7 hb j8 j9;replace C8:=rO C8 hb j8 j9;replace C9:=rO C9 hb j8 j9;replace D0:=rO D0 hb j8 j9;replace U7:=rO U7 hb j8 j9;replace V3:=rO V3 hb j8 j9;replace V4:=rO V4 hb j8 j9;replace Y3:=rO Y3 hb j8 j9;replace l9:=kb l9 hb;replace p5:=kb p5 hb;replace V7:=kb V7 hb;replace HB:=bB hb;clear hb j8 j9)|((with_reducible refine gd 18 rfl ?_);refine bxg #[.bool false,.slice none 0 0,.slice none 0 0] 38 ?_;intro Z1 hg Z2 Z3 hb;have Z4:=gA w hg;have Z5:=gA w hg;have Z6:=nl hg l9;have Z7:=ng hg l9;have Z8:=nl hg p5;have Z9:=ng hg p5;have Aa:=nl hg V7;have Ab:=ng hg V7;replace C7:=rB C7 hb;replace C8:=rB C8 hb;replace C9:=rB C9 hb;replace D0:=rB D0 hb;replace U7:=rB U7 hb;replace V3:=rB V3 hb;replace V4:=rB V4 hb;replace Y3:=rB Y3 hb;replace Y9:=rB Y9 hb;replace Z0:=rB Z0 hb;replace l9:=kb l9 hb;replace p5:=kb p5 hb;replace V7:=kb V7 hb;replace HB:=bB hb;clear hb hg;have Ac:=Z7.out;have Ad:=Z6.out;have Ae:=Z9.out;have Af:=Z8.out;have Ag:=Ab.out;have Ah:=Aa.out;obtain⟨Ai,Aj,Ak,Al,Am,An⟩:=bk3 Z3;obtain⟨Ao,Ap,rfl⟩:=Kd.R_slice Y9.out;obtain⟨Ar,At,rfl⟩:=Kd.R_slice Z0.out;have Au:=r6.out;have Av:=r7.out;obtain⟨Aw,Az,Ba,Bb,Bc,Bd⟩:=bk3 l9)|(go_at_call 26;(with_reducible refine(Ezp.calls P8 e7 _ _ e8 _ _ e9 R8 R9 U0 U1 _ ?_ ?_ ?_ ?_ U3.out).mono ?_);(focus(refine(Kd.R_reads' (e:=3) (base:=w.heap.size) (ok:=fun k_=>(((((((some k_≠(.slice n6 e9.length n7:Value).ownBlock∧(some k_≠(.slice z7 g4.length z8:Value).ownBlock∧some k_≠(.slice B0 g5.length B5:Value).ownBlock))∧some k_≠(.slice U8 Q0.length U9:Value).ownBlock)∧some k_≠(.slice X7 Q4.length X8:Value).ownBlock)∧some k_≠(.slice X9 Q5.length Y0:Value).ownBlock)∧some k_≠(.slice Y4 Q9.length Y5:Value).ownBlock)∧some k_≠(.slice Ao R3.length Ap:Value).ownBlock)∧some k_≠(.slice Ar R4.length At:Value).ownBlock)) (n:=e8.length) (c:=n0) ?_).2.2;exact(rT C7 Z3)));exact lR C7;(focus(refine(Kd.R_reads' (e:=3) (base:=w.heap.size) (ok:=fun k_=>(((((((some k_≠(.slice m9 e8.length n0:Value).ownBlock∧(some k_≠(.slice z7 g4.length z8:Value).ownBlock∧some k_≠(.slice B0 g5.length B5:Value).ownBlock))∧some k_≠(.slice U8 Q0.length U9:Value).ownBlock)∧some k_≠(.slice X7 Q4.length X8:Value).ownBlock)∧some k_≠(.slice X9 Q5.length Y0:Value).ownBlock)∧some k_≠(.slice Y4 Q9.length Y5:Value).ownBlock)∧some k_≠(.slice Ao R3.length Ap:Value).ownBlock)∧some k_≠(.slice Ar R4.length At:Value).ownBlock)) (n:=e9.length) (c:=n7) ?_).2.2;exact(rT C8 Z3)));exact lR C8;rintro e Be ⟨Bf,Bg,rfl,j8,j9,hb⟩;have Bh:=rL (Kd.R_new' (Kd.R_new' (Kd.R_new' (Kd.R_new' (Kd.R_new' (Kd.R_new' (Kd.R_new' (Kd.R_new' (Kd.R_new' (Kd.R_new' j8 (Kd.R_lt (rT C7 Z3))) (Kd.R_lt (rT C8 Z3))) (Kd.R_lt (rT C9 Z3))) (Kd.R_lt (rT D0 Z3))) (Kd.R_lt (rT U7 Z3))) (Kd.R_lt (rT V3 Z3))) (Kd.R_lt (rT V4 Z3))) (Kd.R_lt (rT Y3 Z3))) (Kd.R_lt (rT Y9 Z3))) (Kd.R_lt (rT Z0 Z3)));have Bi:=rL (Kd.R_new' (Kd.R_new' (Kd.R_new' (Kd.R_new' (Kd.R_new' (Kd.R_new' (Kd.R_new' (Kd.R_new' (Kd.R_new' (Kd.R_new' j9 (Kd.R_lt (rT C7 Z3))) (Kd.R_lt (rT C8 Z3))) (Kd.R_lt (rT C9 Z3))) (Kd.R_lt (rT D0 Z3))) (Kd.R_lt (rT U7 Z3))) (Kd.R_lt (rT V3 Z3))) (Kd.R_lt (rT V4 Z3))) (Kd.R_lt (rT Y3 Z3))) (Kd.R_lt (rT Y9 Z3))) (Kd.R_lt (rT Z0 Z3)));replace C7:=ro (rT C7 Z3) hb j8 j9;replace C8:=ro (rT C8 Z3) hb j8 j9;replace C9:=ro (rT C9 Z3) hb j8 j9;replace D0:=ro (rT D0 Z3) hb j8 j9;replace U7:=ro (rT U7 Z3) hb j8 j9;replace V3:=ro (rT V3 Z3) hb j8 j9;replace V4:=ro (rT V4 Z3) hb j8 j9;replace Y3:=ro (rT Y3 Z3) hb j8 j9;replace Y9:=ro (rT Y9 Z3) hb j8 j9;replace Z0:=ro (rT Z0 Z3) hb j8 j9;replace l9:=kF l9 Z6 hb;replace p5:=kF p5 Z8 hb;replace V7:=kF V7 Aa hb;replace Z3:=kP (o':=.cells #[.bool R2,.slice Ao R3.length Ap,.slice Ar R4.length At] 38 (0,0)) Z3 hb;replace HB:=bB hb;clear hb j8 j9)|((with_reducible refine gd 20 rfl ?_);refine bxg #[.bool false,.slice none 0 0,.slice none 0 0] 38 ?_;intro Bj hg Bk Bl hb;have Bm:=gA w hg;have Bn:=gA w hg;have Bo:=nl hg l9;have Bp:=ng hg l9;have Bq:=nl hg p5;have Br:=ng hg p5;have Bt:=nl hg V7;have Bu:=ng hg V7;have Bv:=nl hg Z3;have Bw:=ng hg Z3;replace C7:=rB C7 hb;replace C8:=rB C8 hb;replace C9:=rB C9 hb;replace D0:=rB D0 hb;replace U7:=rB U7 hb;replace V3:=rB V3 hb;replace V4:=rB V4 hb;replace Y3:=rB Y3 hb;replace Y9:=rB Y9 hb;replace Z0:=rB Z0 hb;replace Bh:=rB Bh hb;replace Bi:=rB Bi hb;replace l9:=kb l9 hb;replace p5:=kb p5 hb;replace V7:=kb V7 hb;replace Z3:=kb Z3 hb;replace HB:=bB hb;clear hb hg;have Bx:=Bp.out;have By:=Bo.out;have Bz:=Br.out;have Ca:=Bq.out;have Cb:=Bu.out;have Cc:=Bt.out;have Cd:=Bw.out;have Ce:=Bv.out;obtain⟨Cf,Cg,Ch,Ci,Cj,Ck⟩:=bk3 Bl;obtain⟨Cl,Cm,rfl⟩:=Kd.R_slice Bh.out;obtain⟨Cn,Co,rfl⟩:=Kd.R_slice Bi.out))
            repeat(go_quiet (first|(go_at_call 22;(with_reducible refine(Azw.calls P8 _ _ l0 0 Q0 _ ?_ ?_ Q2.out).mono ?_);exact cB b6;exact b7.out;rintro e U5 ⟨U6,rfl,j8,hb⟩;have U7:=rL (rn (rn (rn (rn j8 C7) C8) C9) D0);replace C7:=rE C7 j8 hb;replace C8:=rE C8 j8 hb;replace C9:=rE C9 j8 hb;replace D0:=rE D0 j8 hb;replace l9:=kb l9 hb;replace p5:=kb p5 hb;replace HB:=bB hb;clear hb j8;obtain⟨U8,U9,rfl⟩:=Kd.R_slice U7.out)|(go_at_call 20;(with_reducible refine(Czz.calls P8 _ _ Q0 Q3 Q4 Q5 Q6 _ ?_ ?_ Q8.out).mono ?_);exact cR U7;exact lR U7;rintro e V0 ⟨V1,V2,rfl,j8,j9,hb⟩;have V3:=rL (rn (rn (rn (rn (rn j8 C7) C8) C9) D0) U7);have V4:=rL (rn (rn (rn (rn (rn j9 C7) C8) C9) D0) U7);replace C7:=rO C7 hb j8 j9;replace C8:=rO C8 hb j8 j9;replace C9:=rO C9 hb j8 j9;replace D0:=rO D0 hb j8 j9;replace U7:=rO U7 hb j8 j9;replace l9:=kb l9 hb;replace p5:=kb p5 hb;replace HB:=bB hb;clear hb j8 j9)|((with_reducible refine gd 16 rfl ?_);refine bxg #[.bool false,.slice none 0 0,.slice none 0 0] 38 ?_;intro V5 hg V6 V7 hb;have V8:=gA w hg;have V9:=gA w hg;have W0:=nl hg l9;have W4:=ng hg l9;have W5:=nl hg p5;have W6:=ng hg p5;replace C7:=rB C7 hb;replace C8:=rB C8 hb;replace C9:=rB C9 hb;replace D0:=rB D0 hb;replace U7:=rB U7 hb;replace V3:=rB V3 hb;replace V4:=rB V4 hb;replace l9:=kb l9 hb;replace p5:=kb p5 hb;replace HB:=bB hb;clear hb hg;have W7:=W4.out;have W8:=W0.out;have W9:=W6.out;have X0:=W5.out;obtain⟨X1,X2,X3,X4,X5,X6⟩:=bk3 V7;obtain⟨X7,X8,rfl⟩:=Kd.R_slice V3.out;obtain⟨X9,Y0,rfl⟩:=Kd.R_slice V4.out)|(go_at_call 22;(with_reducible refine(Azw.calls P8 _ _ l0 0 Q9 _ ?_ ?_ R1.out).mono ?_);exact Kd.C_below b6.out pB;exact b7.out;rintro e Y1 ⟨Y2,rfl,j8,hb⟩;have Y3:=rL (Kd.R_new' (Kd.R_new' (Kd.R_new' (Kd.R_new' (Kd.R_new' (Kd.R_new' (Kd.R_new' j8 (Kd.R_lt (rT C7 V7))) (Kd.R_lt (rT C8 V7))) (Kd.R_lt (rT C9 V7))) (Kd.R_lt (rT D0 V7))) (Kd.R_lt (rT U7 V7))) (Kd.R_lt (rT V3 V7))) (Kd.R_lt (rT V4 V7)));replace C7:=re (rT C7 V7) j8 hb;replace C8:=re (rT C8 V7) j8 hb;replace C9:=re (rT C9 V7) j8 hb;replace D0:=re (rT D0 V7) j8 hb;replace U7:=re (rT U7 V7) j8 hb;replace V3:=re (rT V3 V7) j8 hb;replace V4:=re (rT V4 V7) j8 hb;replace l9:=kF l9 W0 hb;replace p5:=kF p5 W5 hb;replace V7:=kP (o':=.cells #[.bool Q3,.slice X7 Q4.length X8,.slice X9 Q5.length Y0] 38 (0,0)) V7 hb;replace HB:=bB hb;clear hb j8;obtain⟨Y4,Y5,rfl⟩:=Kd.R_slice Y3.out)|(go_at_call 23;(with_reducible refine(Azb.calls P8 _ _ Q9 R2 R3 R4 R5 _ ?_ ?_ R7.out).mono ?_);exact cR Y3;exact lR Y3;rintro e Y6 ⟨Y7,Y8,rfl,j8,j9,hb⟩;have Y9:=rL (rn (rn (rn (rn (rn (rn (rn (rn j8 C7) C8) C9) D0) U7) V3) V4) Y3);have Z0:=rL (rn (rn (rn (rn (rn (rn (rn (rn j9 C7) C8) C9) D0) U7) V3) V4) Y3);replace C7:=rO C7 hb j8 j9;replace C8:=rO C8 hb j8 j9;replace C9:=rO C9 hb j8 j9;replace D0:=rO D0 hb j8 j9;replace U7:=rO U7 hb j8 j9;replace V3:=rO V3 hb j8 j9;replace V4:=rO V4 hb j8 j9;replace Y3:=rO Y3 hb j8 j9;replace l9:=kb l9 hb;replace p5:=kb p5 hb;replace V7:=kb V7 hb;replace HB:=bB hb;clear hb j8 j9)|((with_reducible refine gd 18 rfl ?_);refine bxg #[.bool false,.slice none 0 0,.slice none 0 0] 38 ?_;intro Z1 hg Z2 Z3 hb;have Z4:=gA w hg;have Z5:=gA w hg;have Z6:=nl hg l9;have Z7:=ng hg l9;have Z8:=nl hg p5;have Z9:=ng hg p5;have Aa:=nl hg V7;have Ab:=ng hg V7;replace C7:=rB C7 hb;replace C8:=rB C8 hb;replace C9:=rB C9 hb;replace D0:=rB D0 hb;replace U7:=rB U7 hb;replace V3:=rB V3 hb;replace V4:=rB V4 hb;replace Y3:=rB Y3 hb;replace Y9:=rB Y9 hb;replace Z0:=rB Z0 hb;replace l9:=kb l9 hb;replace p5:=kb p5 hb;replace V7:=kb V7 hb;replace HB:=bB hb;clear hb hg;have Ac:=Z7.out;have Ad:=Z6.out;have Ae:=Z9.out;have Af:=Z8.out;have Ag:=Ab.out;have Ah:=Aa.out;obtain⟨Ai,Aj,Ak,Al,Am,An⟩:=bk3 Z3;obtain⟨Ao,Ap,rfl⟩:=Kd.R_slice Y9.out;obtain⟨Ar,At,rfl⟩:=Kd.R_slice Z0.out;have Au:=r6.out;have Av:=r7.out;obtain⟨Aw,Az,Ba,Bb,Bc,Bd⟩:=bk3 l9)|(go_at_call 26;(with_reducible refine(Ezp.calls P8 e7 _ _ e8 _ _ e9 R8 R9 U0 U1 _ ?_ ?_ ?_ ?_ U3.out).mono ?_);(focus(refine(Kd.R_reads' (e:=3) (base:=w.heap.size) (ok:=fun k_=>(((((((some k_≠(.slice n6 e9.length n7:Value).ownBlock∧(some k_≠(.slice z7 g4.length z8:Value).ownBlock∧some k_≠(.slice B0 g5.length B5:Value).ownBlock))∧some k_≠(.slice U8 Q0.length U9:Value).ownBlock)∧some k_≠(.slice X7 Q4.length X8:Value).ownBlock)∧some k_≠(.slice X9 Q5.length Y0:Value).ownBlock)∧some k_≠(.slice Y4 Q9.length Y5:Value).ownBlock)∧some k_≠(.slice Ao R3.length Ap:Value).ownBlock)∧some k_≠(.slice Ar R4.length At:Value).ownBlock)) (n:=e8.length) (c:=n0) ?_).2.2;exact(rT C7 Z3)));exact lR C7;(focus(refine(Kd.R_reads' (e:=3) (base:=w.heap.size) (ok:=fun k_=>(((((((some k_≠(.slice m9 e8.length n0:Value).ownBlock∧(some k_≠(.slice z7 g4.length z8:Value).ownBlock∧some k_≠(.slice B0 g5.length B5:Value).ownBlock))∧some k_≠(.slice U8 Q0.length U9:Value).ownBlock)∧some k_≠(.slice X7 Q4.length X8:Value).ownBlock)∧some k_≠(.slice X9 Q5.length Y0:Value).ownBlock)∧some k_≠(.slice Y4 Q9.length Y5:Value).ownBlock)∧some k_≠(.slice Ao R3.length Ap:Value).ownBlock)∧some k_≠(.slice Ar R4.length At:Value).ownBlock)) (n:=e9.length) (c:=n7) ?_).2.2;exact(rT C8 Z3)));exact lR C8;rintro e Be ⟨Bf,Bg,rfl,j8,j9,hb⟩;have Bh:=rL (Kd.R_new' (Kd.R_new' (Kd.R_new' (Kd.R_new' (Kd.R_new' (Kd.R_new' (Kd.R_new' (Kd.R_new' (Kd.R_new' (Kd.R_new' j8 (Kd.R_lt (rT C7 Z3))) (Kd.R_lt (rT C8 Z3))) (Kd.R_lt (rT C9 Z3))) (Kd.R_lt (rT D0 Z3))) (Kd.R_lt (rT U7 Z3))) (Kd.R_lt (rT V3 Z3))) (Kd.R_lt (rT V4 Z3))) (Kd.R_lt (rT Y3 Z3))) (Kd.R_lt (rT Y9 Z3))) (Kd.R_lt (rT Z0 Z3)));have Bi:=rL (Kd.R_new' (Kd.R_new' (Kd.R_new' (Kd.R_new' (Kd.R_new' (Kd.R_new' (Kd.R_new' (Kd.R_new' (Kd.R_new' (Kd.R_new' j9 (Kd.R_lt (rT C7 Z3))) (Kd.R_lt (rT C8 Z3))) (Kd.R_lt (rT C9 Z3))) (Kd.R_lt (rT D0 Z3))) (Kd.R_lt (rT U7 Z3))) (Kd.R_lt (rT V3 Z3))) (Kd.R_lt (rT V4 Z3))) (Kd.R_lt (rT Y3 Z3))) (Kd.R_lt (rT Y9 Z3))) (Kd.R_lt (rT Z0 Z3)));replace C7:=ro (rT C7 Z3) hb j8 j9;replace C8:=ro (rT C8 Z3) hb j8 j9;replace C9:=ro (rT C9 Z3) hb j8 j9;replace D0:=ro (rT D0 Z3) hb j8 j9;replace U7:=ro (rT U7 Z3) hb j8 j9;replace V3:=ro (rT V3 Z3) hb j8 j9;replace V4:=ro (rT V4 Z3) hb j8 j9;replace Y3:=ro (rT Y3 Z3) hb j8 j9;replace Y9:=ro (rT Y9 Z3) hb j8 j9;replace Z0:=ro (rT Z0 Z3) hb j8 j9;replace l9:=kF l9 Z6 hb;replace p5:=kF p5 Z8 hb;replace V7:=kF V7 Aa hb;replace Z3:=kP (o':=.cells #[.bool R2,.slice Ao R3.length Ap,.slice Ar R4.length At] 38 (0,0)) Z3 hb;replace HB:=bB hb;clear hb j8 j9)|((with_reducible refine gd 20 rfl ?_);refine bxg #[.bool false,.slice none 0 0,.slice none 0 0] 38 ?_;intro Bj hg Bk Bl hb;have Bm:=gA w hg;have Bn:=gA w hg;have Bo:=nl hg l9;have Bp:=ng hg l9;have Bq:=nl hg p5;have Br:=ng hg p5;have Bt:=nl hg V7;have Bu:=ng hg V7;have Bv:=nl hg Z3;have Bw:=ng hg Z3;replace C7:=rB C7 hb;replace C8:=rB C8 hb;replace C9:=rB C9 hb;replace D0:=rB D0 hb;replace U7:=rB U7 hb;replace V3:=rB V3 hb;replace V4:=rB V4 hb;replace Y3:=rB Y3 hb;replace Y9:=rB Y9 hb;replace Z0:=rB Z0 hb;replace Bh:=rB Bh hb;replace Bi:=rB Bi hb;replace l9:=kb l9 hb;replace p5:=kb p5 hb;replace V7:=kb V7 hb;replace Z3:=kb Z3 hb;replace HB:=bB hb;clear hb hg;have Bx:=Bp.out;have By:=Bo.out;have Bz:=Br.out;have Ca:=Bq.out;have Cb:=Bu.out;have Cc:=Bt.out;have Cd:=Bw.out;have Ce:=Bv.out;obtain⟨Cf,Cg,Ch,Ci,Cj,Ck⟩:=bk3 Bl;obtain⟨Cl,Cm,rfl⟩:=Kd.R_slice Bh.out;obtain⟨Cn,Co,rfl⟩:=Kd.R_slice Bi.out));go_upto_region 19 with (first|(go_at_call 22;(with_reducible refine(Azw.calls P8 _ _ l0 0 Q0 _ ?_ ?_ Q2.out).mono ?_);exact cB b6;exact b7.out;rintro e U5 ⟨U6,rfl,j8,hb⟩;have U7:=rL (rn (rn (rn (rn j8 C7) C8) C9) D0);replace C7:=rE C7 j8 hb;replace C8:=rE C8 j8 hb;replace C9:=rE C9 j8 hb;replace D0:=rE D0 j8 hb;replace l9:=kb l9 hb;replace p5:=kb p5 hb;replace HB:=bB hb;clear hb j8;obtain⟨U8,U9,rfl⟩:=Kd.R_slice U7.out)|(go_at_call 20;(with_reducible refine(Czz.calls P8 _ _ Q0 Q3 Q4 Q5 Q6 _ ?_ ?_ Q8.out).mono ?_);exact cR U7;exact lR U7;rintro e V0 ⟨V1,V2,rfl,j8,j9,hb⟩;have V3:=rL (rn (rn (rn (rn (rn j8 C7) C8) C9) D0) U7);have V4:=rL (rn (rn (rn (rn (rn j9 C7) C8) C9) D0) U7);replace C7:=rO C7 hb j8 j9;replace C8:=rO C8 hb j8 j9;replace C9:=rO C9 hb j8 j9;replace D0:=rO D0 hb j8 j9;replace U7:=rO U7 hb j8 j9;replace l9:=kb l9 hb;replace p5:=kb p5 hb;replace HB:=bB hb;clear hb j8 j9)|((with_reducible refine gd 16 rfl ?_);refine bxg #[.bool false,.slice none 0 0,.slice none 0 0] 38 ?_;intro V5 hg V6 V7 hb;have V8:=gA w hg;have V9:=gA w hg;have W0:=nl hg l9;have W4:=ng hg l9;have W5:=nl hg p5;have W6:=ng hg p5;replace C7:=rB C7 hb;replace C8:=rB C8 hb;replace C9:=rB C9 hb;replace D0:=rB D0 hb;replace U7:=rB U7 hb;replace V3:=rB V3 hb;replace V4:=rB V4 hb;replace l9:=kb l9 hb;replace p5:=kb p5 hb;replace HB:=bB hb;clear hb hg;have W7:=W4.out;have W8:=W0.out;have W9:=W6.out;have X0:=W5.out;obtain⟨X1,X2,X3,X4,X5,X6⟩:=bk3 V7;obtain⟨X7,X8,rfl⟩:=Kd.R_slice V3.out;obtain⟨X9,Y0,rfl⟩:=Kd.R_slice V4.out)|(go_at_call 22;(with_reducible refine(Azw.calls P8 _ _ l0 0 Q9 _ ?_ ?_ R1.out).mono ?_);exact Kd.C_below b6.out pB;exact b7.out;rintro e Y1 ⟨Y2,rfl,j8,hb⟩;have Y3:=rL (Kd.R_new' (Kd.R_new' (Kd.R_new' (Kd.R_new' (Kd.R_new' (Kd.R_new' (Kd.R_new' j8 (Kd.R_lt (rT C7 V7))) (Kd.R_lt (rT C8 V7))) (Kd.R_lt (rT C9 V7))) (Kd.R_lt (rT D0 V7))) (Kd.R_lt (rT U7 V7))) (Kd.R_lt (rT V3 V7))) (Kd.R_lt (rT V4 V7)));replace C7:=re (rT C7 V7) j8 hb;replace C8:=re (rT C8 V7) j8 hb;replace C9:=re (rT C9 V7) j8 hb;replace D0:=re (rT D0 V7) j8 hb;replace U7:=re (rT U7 V7) j8 hb;replace V3:=re (rT V3 V7) j8 hb;replace V4:=re (rT V4 V7) j8 hb;replace l9:=kF l9 W0 hb;replace p5:=kF p5 W5 hb;replace V7:=kP (o':=.cells #[.bool Q3,.slice X7 Q4.length X8,.slice X9 Q5.length Y0] 38 (0,0)) V7 hb;replace HB:=bB hb;clear hb j8;obtain⟨Y4,Y5,rfl⟩:=Kd.R_slice Y3.out)|(go_at_call 23;(with_reducible refine(Azb.calls P8 _ _ Q9 R2 R3 R4 R5 _ ?_ ?_ R7.out).mono ?_);exact cR Y3;exact lR Y3;rintro e Y6 ⟨Y7,Y8,rfl,j8,j9,hb⟩;have Y9:=rL (rn (rn (rn (rn (rn (rn (rn (rn j8 C7) C8) C9) D0) U7) V3) V4) Y3);have Z0:=rL (rn (rn (rn (rn (rn (rn (rn (rn j9 C7) C8) C9) D0) U7) V3) V4) Y3);replace C7:=rO C7 hb j8 j9;replace C8:=rO C8 hb j8 j9;replace C9:=rO C9 hb j8 j9;replace D0:=rO D0 hb j8 j9;replace U7:=rO U7 hb j8 j9;replace V3:=rO V3 hb j8 j9;replace V4:=rO V4 hb j8 j9;replace Y3:=rO Y3 hb j8 j9;replace l9:=kb l9 hb;replace p5:=kb p5 hb;replace V7:=kb V7 hb;replace HB:=bB hb;clear hb j8 j9)|((with_reducible refine gd 18 rfl ?_);refine bxg #[.bool false,.slice none 0 0,.slice none 0 0] 38 ?_;intro Z1 hg Z2 Z3 hb;have Z4:=gA w hg;have Z5:=gA w hg;have Z6:=nl hg l9;have Z7:=ng hg l9;have Z8:=nl hg p5;have Z9:=ng hg p5;have Aa:=nl hg V7;have Ab:=ng hg V7;replace C7:=rB C7 hb;replace C8:=rB C8 hb;replace C9:=rB C9 hb;replace D0:=rB D0 hb;replace U7:=rB U7 hb;replace V3:=rB V3 hb;replace V4:=rB V4 hb;replace Y3:=rB Y3 hb;replace Y9:=rB Y9 hb;replace Z0:=rB Z0 hb;replace l9:=kb l9 hb;replace p5:=kb p5 hb;replace V7:=kb V7 hb;replace HB:=bB hb;clear hb hg;have Ac:=Z7.out;have Ad:=Z6.out;have Ae:=Z9.out;have Af:=Z8.out;have Ag:=Ab.out;have Ah:=Aa.out;obtain⟨Ai,Aj,Ak,Al,Am,An⟩:=bk3 Z3;obtain⟨Ao,Ap,rfl⟩:=Kd.R_slice Y9.out;obtain⟨Ar,At,rfl⟩:=Kd.R_slice Z0.out;have Au:=r6.out;have Av:=r7.out;obtain⟨Aw,Az,Ba,Bb,Bc,Bd⟩:=bk3 l9)|(go_at_call 26;(with_reducible refine(Ezp.calls P8 e7 _ _ e8 _ _ e9 R8 R9 U0 U1 _ ?_ ?_ ?_ ?_ U3.out).mono ?_);(focus(refine(Kd.R_reads' (e:=3) (base:=w.heap.size) (ok:=fun k_=>(((((((some k_≠(.slice n6 e9.length n7:Value).ownBlock∧(some k_≠(.slice z7 g4.length z8:Value).ownBlock∧some k_≠(.slice B0 g5.length B5:Value).ownBlock))∧some k_≠(.slice U8 Q0.length U9:Value).ownBlock)∧some k_≠(.slice X7 Q4.length X8:Value).ownBlock)∧some k_≠(.slice X9 Q5.length Y0:Value).ownBlock)∧some k_≠(.slice Y4 Q9.length Y5:Value).ownBlock)∧some k_≠(.slice Ao R3.length Ap:Value).ownBlock)∧some k_≠(.slice Ar R4.length At:Value).ownBlock)) (n:=e8.length) (c:=n0) ?_).2.2;exact(rT C7 Z3)));exact lR C7;(focus(refine(Kd.R_reads' (e:=3) (base:=w.heap.size) (ok:=fun k_=>(((((((some k_≠(.slice m9 e8.length n0:Value).ownBlock∧(some k_≠(.slice z7 g4.length z8:Value).ownBlock∧some k_≠(.slice B0 g5.length B5:Value).ownBlock))∧some k_≠(.slice U8 Q0.length U9:Value).ownBlock)∧some k_≠(.slice X7 Q4.length X8:Value).ownBlock)∧some k_≠(.slice X9 Q5.length Y0:Value).ownBlock)∧some k_≠(.slice Y4 Q9.length Y5:Value).ownBlock)∧some k_≠(.slice Ao R3.length Ap:Value).ownBlock)∧some k_≠(.slice Ar R4.length At:Value).ownBlock)) (n:=e9.length) (c:=n7) ?_).2.2;exact(rT C8 Z3)));exact lR C8;rintro e Be ⟨Bf,Bg,rfl,j8,j9,hb⟩;have Bh:=rL (Kd.R_new' (Kd.R_new' (Kd.R_new' (Kd.R_new' (Kd.R_new' (Kd.R_new' (Kd.R_new' (Kd.R_new' (Kd.R_new' (Kd.R_new' j8 (Kd.R_lt (rT C7 Z3))) (Kd.R_lt (rT C8 Z3))) (Kd.R_lt (rT C9 Z3))) (Kd.R_lt (rT D0 Z3))) (Kd.R_lt (rT U7 Z3))) (Kd.R_lt (rT V3 Z3))) (Kd.R_lt (rT V4 Z3))) (Kd.R_lt (rT Y3 Z3))) (Kd.R_lt (rT Y9 Z3))) (Kd.R_lt (rT Z0 Z3)));have Bi:=rL (Kd.R_new' (Kd.R_new' (Kd.R_new' (Kd.R_new' (Kd.R_new' (Kd.R_new' (Kd.R_new' (Kd.R_new' (Kd.R_new' (Kd.R_new' j9 (Kd.R_lt (rT C7 Z3))) (Kd.R_lt (rT C8 Z3))) (Kd.R_lt (rT C9 Z3))) (Kd.R_lt (rT D0 Z3))) (Kd.R_lt (rT U7 Z3))) (Kd.R_lt (rT V3 Z3))) (Kd.R_lt (rT V4 Z3))) (Kd.R_lt (rT Y3 Z3))) (Kd.R_lt (rT Y9 Z3))) (Kd.R_lt (rT Z0 Z3)));replace C7:=ro (rT C7 Z3) hb j8 j9;replace C8:=ro (rT C8 Z3) hb j8 j9;replace C9:=ro (rT C9 Z3) hb j8 j9;replace D0:=ro (rT D0 Z3) hb j8 j9;replace U7:=ro (rT U7 Z3) hb j8 j9;replace V3:=ro (rT V3 Z3) hb j8 j9;replace V4:=ro (rT V4 Z3) hb j8 j9;replace Y3:=ro (rT Y3 Z3) hb j8 j9;replace Y9:=ro (rT Y9 Z3) hb j8 j9;replace Z0:=ro (rT Z0 Z3) hb j8 j9;replace l9:=kF l9 Z6 hb;replace p5:=kF p5 Z8 hb;replace V7:=kF V7 Aa hb;replace Z3:=kP (o':=.cells #[.bool R2,.slice Ao R3.length Ap,.slice Ar R4.length At] 38 (0,0)) Z3 hb;replace HB:=bB hb;clear hb j8 j9)|((with_reducible refine gd 20 rfl ?_);refine bxg #[.bool false,.slice none 0 0,.slice none 0 0] 38 ?_;intro Bj hg Bk Bl hb;have Bm:=gA w hg;have Bn:=gA w hg;have Bo:=nl hg l9;have Bp:=ng hg l9;have Bq:=nl hg p5;have Br:=ng hg p5;have Bt:=nl hg V7;have Bu:=ng hg V7;have Bv:=nl hg Z3;have Bw:=ng hg Z3;replace C7:=rB C7 hb;replace C8:=rB C8 hb;replace C9:=rB C9 hb;replace D0:=rB D0 hb;replace U7:=rB U7 hb;replace V3:=rB V3 hb;replace V4:=rB V4 hb;replace Y3:=rB Y3 hb;replace Y9:=rB Y9 hb;replace Z0:=rB Z0 hb;replace Bh:=rB Bh hb;replace Bi:=rB Bi hb;replace l9:=kb l9 hb;replace p5:=kb p5 hb;replace V7:=kb V7 hb;replace Z3:=kb Z3 hb;replace HB:=bB hb;clear hb hg;have Bx:=Bp.out;have By:=Bo.out;have Bz:=Br.out;have Ca:=Bq.out;have Cb:=Bu.out;have Cc:=Bt.out;have Cd:=Bw.out;have Ce:=Bv.out;obtain⟨Cf,Cg,Ch,Ci,Cj,Ck⟩:=bk3 Bl;obtain⟨Cl,Cm,rfl⟩:=Kd.R_slice Bh.out;obtain⟨Cn,Co,rfl⟩:=Kd.R_slice Bi.out)))
            (try simp only[Act.put,sA,sZ,sC])
            go_cut [158] (fun Cp wc=>∃ (kq:Nat) (Cq:Bool),Cp=.bool Cq∧Aside0 (papermilllaw60_StatsMoves.j3 kq l0 a8 F8 F9 Cq e7 e8 e9 f9 g4 g5=some r)∧Aside0 (kq≤P8)∧Aside0 (Kd.R (Kd.int .i64) 3 wc w.heap.size (fun k_=>some k_≠((.slice n6 e9.length n7):Value).ownBlock∧some k_≠((.slice z7 g4.length z8):Value).ownBlock∧some k_≠((.slice B0 g5.length B5):Value).ownBlock∧some k_≠((.slice X7 Q4.length X8):Value).ownBlock∧some k_≠((.slice X9 Q5.length Y0):Value).ownBlock∧some k_≠((.slice Ao R3.length Ap):Value).ownBlock∧some k_≠((.slice Ar R4.length At):Value).ownBlock∧some k_≠((.slice Cl R9.length Cm):Value).ownBlock∧some k_≠((.slice Cn U0.length Co):Value).ownBlock) (.slice m9 e8.length n0) e8)∧Aside0 (Kd.R (Kd.int .i64) 3 wc w.heap.size (fun k_=>some k_≠((.slice m9 e8.length n0):Value).ownBlock∧some k_≠((.slice z7 g4.length z8):Value).ownBlock∧some k_≠((.slice B0 g5.length B5):Value).ownBlock∧some k_≠((.slice X7 Q4.length X8):Value).ownBlock∧some k_≠((.slice X9 Q5.length Y0):Value).ownBlock∧some k_≠((.slice Ao R3.length Ap):Value).ownBlock∧some k_≠((.slice Ar R4.length At):Value).ownBlock∧some k_≠((.slice Cl R9.length Cm):Value).ownBlock∧some k_≠((.slice Cn U0.length Co):Value).ownBlock) (.slice n6 e9.length n7) e9)∧Aside0 (Kd.R (Kd.int .i64) 3 wc w.heap.size (fun k_=>some k_≠((.slice m9 e8.length n0):Value).ownBlock∧some k_≠((.slice n6 e9.length n7):Value).ownBlock∧some k_≠((.slice B0 g5.length B5):Value).ownBlock∧some k_≠((.slice X7 Q4.length X8):Value).ownBlock∧some k_≠((.slice X9 Q5.length Y0):Value).ownBlock∧some k_≠((.slice Ao R3.length Ap):Value).ownBlock∧some k_≠((.slice Ar R4.length At):Value).ownBlock∧some k_≠((.slice Cl R9.length Cm):Value).ownBlock∧some k_≠((.slice Cn U0.length Co):Value).ownBlock) (.slice z7 g4.length z8) g4)∧Aside0 (Kd.R (Kd.int .i64) 3 wc w.heap.size (fun k_=>some k_≠((.slice m9 e8.length n0):Value).ownBlock∧some k_≠((.slice n6 e9.length n7):Value).ownBlock∧some k_≠((.slice z7 g4.length z8):Value).ownBlock∧some k_≠((.slice X7 Q4.length X8):Value).ownBlock∧some k_≠((.slice X9 Q5.length Y0):Value).ownBlock∧some k_≠((.slice Ao R3.length Ap):Value).ownBlock∧some k_≠((.slice Ar R4.length At):Value).ownBlock∧some k_≠((.slice Cl R9.length Cm):Value).ownBlock∧some k_≠((.slice Cn U0.length Co):Value).ownBlock) (.slice B0 g5.length B5) g5)∧Aside0 (Kd.R (Kd.int .i64) 3 wc w.heap.size (fun k_=>some k_≠((.slice m9 e8.length n0):Value).ownBlock∧some k_≠((.slice n6 e9.length n7):Value).ownBlock∧some k_≠((.slice z7 g4.length z8):Value).ownBlock∧some k_≠((.slice B0 g5.length B5):Value).ownBlock∧some k_≠((.slice X9 Q5.length Y0):Value).ownBlock∧some k_≠((.slice Ao R3.length Ap):Value).ownBlock∧some k_≠((.slice Ar R4.length At):Value).ownBlock∧some k_≠((.slice Cl R9.length Cm):Value).ownBlock∧some k_≠((.slice Cn U0.length Co):Value).ownBlock) (.slice X7 Q4.length X8) Q4)∧Aside0 (Kd.R (Kd.int .i64) 3 wc w.heap.size (fun k_=>some k_≠((.slice m9 e8.length n0):Value).ownBlock∧some k_≠((.slice n6 e9.length n7):Value).ownBlock∧some k_≠((.slice z7 g4.length z8):Value).ownBlock∧some k_≠((.slice B0 g5.length B5):Value).ownBlock∧some k_≠((.slice X7 Q4.length X8):Value).ownBlock∧some k_≠((.slice Ao R3.length Ap):Value).ownBlock∧some k_≠((.slice Ar R4.length At):Value).ownBlock∧some k_≠((.slice Cl R9.length Cm):Value).ownBlock∧some k_≠((.slice Cn U0.length Co):Value).ownBlock) (.slice X9 Q5.length Y0) Q5)∧Aside0 (Kd.R (Kd.int .i64) 3 wc w.heap.size (fun k_=>some k_≠((.slice m9 e8.length n0):Value).ownBlock∧some k_≠((.slice n6 e9.length n7):Value).ownBlock∧some k_≠((.slice z7 g4.length z8):Value).ownBlock∧some k_≠((.slice B0 g5.length B5):Value).ownBlock∧some k_≠((.slice X7 Q4.length X8):Value).ownBlock∧some k_≠((.slice X9 Q5.length Y0):Value).ownBlock∧some k_≠((.slice Ar R4.length At):Value).ownBlock∧some k_≠((.slice Cl R9.length Cm):Value).ownBlock∧some k_≠((.slice Cn U0.length Co):Value).ownBlock) (.slice Ao R3.length Ap) R3)∧Aside0 (Kd.R (Kd.int .i64) 3 wc w.heap.size (fun k_=>some k_≠((.slice m9 e8.length n0):Value).ownBlock∧some k_≠((.slice n6 e9.length n7):Value).ownBlock∧some k_≠((.slice z7 g4.length z8):Value).ownBlock∧some k_≠((.slice B0 g5.length B5):Value).ownBlock∧some k_≠((.slice X7 Q4.length X8):Value).ownBlock∧some k_≠((.slice X9 Q5.length Y0):Value).ownBlock∧some k_≠((.slice Ao R3.length Ap):Value).ownBlock∧some k_≠((.slice Cl R9.length Cm):Value).ownBlock∧some k_≠((.slice Cn U0.length Co):Value).ownBlock) (.slice Ar R4.length At) R4)∧Aside0 (Kd.R (Kd.int .i64) 3 wc w.heap.size (fun k_=>some k_≠((.slice m9 e8.length n0):Value).ownBlock∧some k_≠((.slice n6 e9.length n7):Value).ownBlock∧some k_≠((.slice z7 g4.length z8):Value).ownBlock∧some k_≠((.slice B0 g5.length B5):Value).ownBlock∧some k_≠((.slice X7 Q4.length X8):Value).ownBlock∧some k_≠((.slice X9 Q5.length Y0):Value).ownBlock∧some k_≠((.slice Ao R3.length Ap):Value).ownBlock∧some k_≠((.slice Ar R4.length At):Value).ownBlock∧some k_≠((.slice Cn U0.length Co):Value).ownBlock) (.slice Cl R9.length Cm) R9)∧Aside0 (Kd.R (Kd.int .i64) 3 wc w.heap.size (fun k_=>some k_≠((.slice m9 e8.length n0):Value).ownBlock∧some k_≠((.slice n6 e9.length n7):Value).ownBlock∧some k_≠((.slice z7 g4.length z8):Value).ownBlock∧some k_≠((.slice B0 g5.length B5):Value).ownBlock∧some k_≠((.slice X7 Q4.length X8):Value).ownBlock∧some k_≠((.slice X9 Q5.length Y0):Value).ownBlock∧some k_≠((.slice Ao R3.length Ap):Value).ownBlock∧some k_≠((.slice Ar R4.length At):Value).ownBlock∧some k_≠((.slice Cl R9.length Cm):Value).ownBlock) (.slice Cn U0.length Co) U0)∧Aside0 (wc.heap[l7]?=some (.cells #[.bool e7,(.slice m9 e8.length n0),(.slice n6 e9.length n7)] 38 (0,0)))∧Aside0 (wc.heap[p0]?=some (.cells #[.bool f9,(.slice z7 g4.length z8),(.slice B0 g5.length B5)] 38 (0,0)))∧Aside0 (wc.heap[V5]?=some (.cells #[.bool Q3,(.slice X7 Q4.length X8),(.slice X9 Q5.length Y0)] 38 (0,0)))∧Aside0 (wc.heap[Z1]?=some (.cells #[.bool R2,(.slice Ao R3.length Ap),(.slice Ar R4.length At)] 38 (0,0)))∧Aside0 (wc.heap[Bj]?=some (.cells #[.bool R8,(.slice Cl R9.length Cm),(.slice Cn U0.length Co)] 38 (0,0)))∧Aside0 (Below w.heap.size w wc))
            case first =>
             have H:=U4.out;clear U4;by_cases Cr:Q6=0
             ·rw[if_pos Cr] at H;have Cs:(Q6 == 0)=true:=beq_iff_eq.mpr Cr;have Ct:(Q6 != 0)=false:=bne_eq_false_iff_eq.mpr Cr;clear Cr;(first|rw[Cs]|(simp only[i64_w,i32_w];rw[Cs])|skip)
              by_cases Cu:R5=0
              ·rw[if_pos Cu] at H;have Cv:(R5 == 0)=true:=beq_iff_eq.mpr Cu;have Cw:(R5 != 0)=false:=bne_eq_false_iff_eq.mpr Cu;clear Cu;by_cases Cx:U1=0
               ·rw[if_pos Cx] at H;have Cy:(U1 == 0)=true:=beq_iff_eq.mpr Cx;have Cz:(U1 != 0)=false:=bne_eq_false_iff_eq.mpr Cx;clear Cx;replace H:=bS H;obtain⟨Da,Db,H⟩:=H;try dsimp only at H
                have Dc:=aM Db;clear Db;by_cases Dd:Da=true
                ·subst Dd;rw[if_pos rfl] at H;replace H:=bS H;obtain⟨De,Df,H⟩:=H;try dsimp only at H
                 have Dg:=aM Df;clear Df;have H':=aM H;clear H;have Dh:=W4.out;have Di:=W0.out;have Dj:=W6.out;have Dk:=W5.out;have Dl:=Aa.out;have Dm:=Ab.out;have Dn:=Bt.out;have Do:=Bu.out;obtain⟨Dp,Dq,Dr,Ds,Dt,Du⟩:=bk3 V7;have Dv:=Bp.out;have Dw:=Bo.out;have Dx:=Br.out;have Dy:=Bq.out;have Dz:=Bw.out;have Ea:=Bv.out;obtain⟨Eb,Ec,Ed,Ee,Ef,Eg⟩:=bk3 Bl;have fl_:True:=trivial;repeat((first|clear fl_|go_quiet (first|(go_at_call 27;(with_reducible refine(Azm.calls P8 Q3 _ _ Q4 _ _ Q5 R8 _ _ R9 _ _ U0 true _ ?_ ?_ ?_ ?_ ?_ ?_ ?_ ?_ Dc.out).mono ?_);(focus(refine(Kd.R_reads' (e:=3) (base:=w.heap.size) (ok:=fun k_=>((((((((((some k_≠(.slice X9 Q5.length Y0:Value).ownBlock∧some k_≠(.slice m9 e8.length n0:Value).ownBlock)∧some k_≠(.slice n6 e9.length n7:Value).ownBlock)∧some k_≠(.slice z7 g4.length z8:Value).ownBlock)∧some k_≠(.slice B0 g5.length B5:Value).ownBlock)∧some k_≠(.slice U8 Q0.length U9:Value).ownBlock)∧some k_≠(.slice Y4 Q9.length Y5:Value).ownBlock)∧some k_≠(.slice Ao R3.length Ap:Value).ownBlock)∧some k_≠(.slice Ar R4.length At:Value).ownBlock)∧some k_≠(.slice Cl R9.length Cm:Value).ownBlock)∧some k_≠(.slice Cn U0.length Co:Value).ownBlock)) (n:=Q4.length) (c:=X8) ?_).2.2;exact(rT V3 Bl)));exact lR V3;(focus(refine(Kd.R_reads' (e:=3) (base:=w.heap.size) (ok:=fun k_=>((((((((((some k_≠(.slice X7 Q4.length X8:Value).ownBlock∧some k_≠(.slice m9 e8.length n0:Value).ownBlock)∧some k_≠(.slice n6 e9.length n7:Value).ownBlock)∧some k_≠(.slice z7 g4.length z8:Value).ownBlock)∧some k_≠(.slice B0 g5.length B5:Value).ownBlock)∧some k_≠(.slice U8 Q0.length U9:Value).ownBlock)∧some k_≠(.slice Y4 Q9.length Y5:Value).ownBlock)∧some k_≠(.slice Ao R3.length Ap:Value).ownBlock)∧some k_≠(.slice Ar R4.length At:Value).ownBlock)∧some k_≠(.slice Cl R9.length Cm:Value).ownBlock)∧some k_≠(.slice Cn U0.length Co:Value).ownBlock)) (n:=Q5.length) (c:=Y0) ?_).2.2;exact(rT V4 Bl)));exact lR V4;(focus(refine(Kd.R_reads' (e:=3) (base:=w.heap.size) (ok:=fun k_=>((((((((((some k_≠(.slice Cn U0.length Co:Value).ownBlock∧some k_≠(.slice m9 e8.length n0:Value).ownBlock)∧some k_≠(.slice n6 e9.length n7:Value).ownBlock)∧some k_≠(.slice z7 g4.length z8:Value).ownBlock)∧some k_≠(.slice B0 g5.length B5:Value).ownBlock)∧some k_≠(.slice U8 Q0.length U9:Value).ownBlock)∧some k_≠(.slice X7 Q4.length X8:Value).ownBlock)∧some k_≠(.slice X9 Q5.length Y0:Value).ownBlock)∧some k_≠(.slice Y4 Q9.length Y5:Value).ownBlock)∧some k_≠(.slice Ao R3.length Ap:Value).ownBlock)∧some k_≠(.slice Ar R4.length At:Value).ownBlock)) (n:=R9.length) (c:=Cm) ?_).2.2;exact(rT Bh Bl)));exact lR Bh;(focus(refine(Kd.R_reads' (e:=3) (base:=w.heap.size) (ok:=fun k_=>((((((((((some k_≠(.slice Cl R9.length Cm:Value).ownBlock∧some k_≠(.slice m9 e8.length n0:Value).ownBlock)∧some k_≠(.slice n6 e9.length n7:Value).ownBlock)∧some k_≠(.slice z7 g4.length z8:Value).ownBlock)∧some k_≠(.slice B0 g5.length B5:Value).ownBlock)∧some k_≠(.slice U8 Q0.length U9:Value).ownBlock)∧some k_≠(.slice X7 Q4.length X8:Value).ownBlock)∧some k_≠(.slice X9 Q5.length Y0:Value).ownBlock)∧some k_≠(.slice Y4 Q9.length Y5:Value).ownBlock)∧some k_≠(.slice Ao R3.length Ap:Value).ownBlock)∧some k_≠(.slice Ar R4.length At:Value).ownBlock)) (n:=U0.length) (c:=Co) ?_).2.2;exact(rT Bi Bl)));exact lR Bi;rintro e Eh ⟨rfl,hb⟩;replace C7:=rb (rT C7 Bl) hb;replace C8:=rb (rT C8 Bl) hb;replace C9:=rb (rT C9 Bl) hb;replace D0:=rb (rT D0 Bl) hb;replace U7:=rb (rT U7 Bl) hb;replace V3:=rb (rT V3 Bl) hb;replace V4:=rb (rT V4 Bl) hb;replace Y3:=rb (rT Y3 Bl) hb;replace Y9:=rb (rT Y9 Bl) hb;replace Z0:=rb (rT Z0 Bl) hb;replace Bh:=rb (rT Bh Bl) hb;replace Bi:=rb (rT Bi Bl) hb;replace l9:=kF l9 Bo hb;replace p5:=kF p5 Bq hb;replace V7:=kF V7 Bt hb;replace Z3:=kF Z3 Bv hb;replace Bl:=kP (o':=.cells #[.bool R8,.slice Cl R9.length Cm,.slice Cn U0.length Co] 38 (0,0)) Bl hb;replace HB:=bB hb;clear hb;have Ei:=Z7.out;have Ej:=Z6.out;have Ek:=Z9.out;have El:=Z8.out;obtain⟨Em,En,Eo,Ep,Er,Es⟩:=bk3 Z3;have Et:=r7.out;have Eu:=r6.out;obtain⟨Ew,Ex,Ey,Ez,Fa,Fb⟩:=bk3 p5)|(go_at_call 27;(with_reducible refine(Azm.calls P8 R2 _ _ R3 _ _ R4 f9 _ _ g4 _ _ g5 De _ ?_ ?_ ?_ ?_ ?_ ?_ ?_ ?_ Dg.out).mono ?_);exact cR Y9;exact lR Y9;exact cR Z0;exact lR Z0;exact cR C9;exact lR C9;exact cR D0;exact lR D0;rintro e Fc ⟨rfl,hb⟩;replace C7:=rB C7 hb;replace C8:=rB C8 hb;replace C9:=rB C9 hb;replace D0:=rB D0 hb;replace U7:=rB U7 hb;replace V3:=rB V3 hb;replace V4:=rB V4 hb;replace Y3:=rB Y3 hb;replace Y9:=rB Y9 hb;replace Z0:=rB Z0 hb;replace Bh:=rB Bh hb;replace Bi:=rB Bi hb;replace l9:=kb l9 hb;replace p5:=kb p5 hb;replace V7:=kb V7 hb;replace Z3:=kb Z3 hb;replace Bl:=kb Bl hb;replace HB:=bB hb;clear hb)));go_wp2_with (first|(go_at_call 27;(with_reducible refine(Azm.calls P8 Q3 _ _ Q4 _ _ Q5 R8 _ _ R9 _ _ U0 true _ ?_ ?_ ?_ ?_ ?_ ?_ ?_ ?_ Dc.out).mono ?_);(focus(refine(Kd.R_reads' (e:=3) (base:=w.heap.size) (ok:=fun k_=>((((((((((some k_≠(.slice X9 Q5.length Y0:Value).ownBlock∧some k_≠(.slice m9 e8.length n0:Value).ownBlock)∧some k_≠(.slice n6 e9.length n7:Value).ownBlock)∧some k_≠(.slice z7 g4.length z8:Value).ownBlock)∧some k_≠(.slice B0 g5.length B5:Value).ownBlock)∧some k_≠(.slice U8 Q0.length U9:Value).ownBlock)∧some k_≠(.slice Y4 Q9.length Y5:Value).ownBlock)∧some k_≠(.slice Ao R3.length Ap:Value).ownBlock)∧some k_≠(.slice Ar R4.length At:Value).ownBlock)∧some k_≠(.slice Cl R9.length Cm:Value).ownBlock)∧some k_≠(.slice Cn U0.length Co:Value).ownBlock)) (n:=Q4.length) (c:=X8) ?_).2.2;exact(rT V3 Bl)));exact lR V3;(focus(refine(Kd.R_reads' (e:=3) (base:=w.heap.size) (ok:=fun k_=>((((((((((some k_≠(.slice X7 Q4.length X8:Value).ownBlock∧some k_≠(.slice m9 e8.length n0:Value).ownBlock)∧some k_≠(.slice n6 e9.length n7:Value).ownBlock)∧some k_≠(.slice z7 g4.length z8:Value).ownBlock)∧some k_≠(.slice B0 g5.length B5:Value).ownBlock)∧some k_≠(.slice U8 Q0.length U9:Value).ownBlock)∧some k_≠(.slice Y4 Q9.length Y5:Value).ownBlock)∧some k_≠(.slice Ao R3.length Ap:Value).ownBlock)∧some k_≠(.slice Ar R4.length At:Value).ownBlock)∧some k_≠(.slice Cl R9.length Cm:Value).ownBlock)∧some k_≠(.slice Cn U0.length Co:Value).ownBlock)) (n:=Q5.length) (c:=Y0) ?_).2.2;exact(rT V4 Bl)));exact lR V4;(focus(refine(Kd.R_reads' (e:=3) (base:=w.heap.size) (ok:=fun k_=>((((((((((some k_≠(.slice Cn U0.length Co:Value).ownBlock∧some k_≠(.slice m9 e8.length n0:Value).ownBlock)∧some k_≠(.slice n6 e9.length n7:Value).ownBlock)∧some k_≠(.slice z7 g4.length z8:Value).ownBlock)∧some k_≠(.slice B0 g5.length B5:Value).ownBlock)∧some k_≠(.slice U8 Q0.length U9:Value).ownBlock)∧some k_≠(.slice X7 Q4.length X8:Value).ownBlock)∧some k_≠(.slice X9 Q5.length Y0:Value).ownBlock)∧some k_≠(.slice Y4 Q9.length Y5:Value).ownBlock)∧some k_≠(.slice Ao R3.length Ap:Value).ownBlock)∧some k_≠(.slice Ar R4.length At:Value).ownBlock)) (n:=R9.length) (c:=Cm) ?_).2.2;exact(rT Bh Bl)));exact lR Bh;(focus(refine(Kd.R_reads' (e:=3) (base:=w.heap.size) (ok:=fun k_=>((((((((((some k_≠(.slice Cl R9.length Cm:Value).ownBlock∧some k_≠(.slice m9 e8.length n0:Value).ownBlock)∧some k_≠(.slice n6 e9.length n7:Value).ownBlock)∧some k_≠(.slice z7 g4.length z8:Value).ownBlock)∧some k_≠(.slice B0 g5.length B5:Value).ownBlock)∧some k_≠(.slice U8 Q0.length U9:Value).ownBlock)∧some k_≠(.slice X7 Q4.length X8:Value).ownBlock)∧some k_≠(.slice X9 Q5.length Y0:Value).ownBlock)∧some k_≠(.slice Y4 Q9.length Y5:Value).ownBlock)∧some k_≠(.slice Ao R3.length Ap:Value).ownBlock)∧some k_≠(.slice Ar R4.length At:Value).ownBlock)) (n:=U0.length) (c:=Co) ?_).2.2;exact(rT Bi Bl)));exact lR Bi;rintro e Eh ⟨rfl,hb⟩;replace C7:=rb (rT C7 Bl) hb;replace C8:=rb (rT C8 Bl) hb;replace C9:=rb (rT C9 Bl) hb;replace D0:=rb (rT D0 Bl) hb;replace U7:=rb (rT U7 Bl) hb;replace V3:=rb (rT V3 Bl) hb;replace V4:=rb (rT V4 Bl) hb;replace Y3:=rb (rT Y3 Bl) hb;replace Y9:=rb (rT Y9 Bl) hb;replace Z0:=rb (rT Z0 Bl) hb;replace Bh:=rb (rT Bh Bl) hb;replace Bi:=rb (rT Bi Bl) hb;replace l9:=kF l9 Bo hb;replace p5:=kF p5 Bq hb;replace V7:=kF V7 Bt hb;replace Z3:=kF Z3 Bv hb;replace Bl:=kP (o':=.cells #[.bool R8,.slice Cl R9.length Cm,.slice Cn U0.length Co] 38 (0,0)) Bl hb;replace HB:=bB hb;clear hb;have Ei:=Z7.out;have Ej:=Z6.out;have Ek:=Z9.out;have El:=Z8.out;obtain⟨Em,En,Eo,Ep,Er,Es⟩:=bk3 Z3;have Et:=r7.out;have Eu:=r6.out;obtain⟨Ew,Ex,Ey,Ez,Fa,Fb⟩:=bk3 p5)|(go_at_call 27;(with_reducible refine(Azm.calls P8 R2 _ _ R3 _ _ R4 f9 _ _ g4 _ _ g5 De _ ?_ ?_ ?_ ?_ ?_ ?_ ?_ ?_ Dg.out).mono ?_);exact cR Y9;exact lR Y9;exact cR Z0;exact lR Z0;exact cR C9;exact lR C9;exact cR D0;exact lR D0;rintro e Fc ⟨rfl,hb⟩;replace C7:=rB C7 hb;replace C8:=rB C8 hb;replace C9:=rB C9 hb;replace D0:=rB D0 hb;replace U7:=rB U7 hb;replace V3:=rB V3 hb;replace V4:=rB V4 hb;replace Y3:=rB Y3 hb;replace Y9:=rB Y9 hb;replace Z0:=rB Z0 hb;replace Bh:=rB Bh hb;replace Bi:=rB Bi hb;replace l9:=kb l9 hb;replace p5:=kb p5 hb;replace V7:=kb V7 hb;replace Z3:=kb Z3 hb;replace Bl:=kb Bl hb;replace HB:=bB hb;clear hb)))
                 go_meet
                 case rel=>exact⟨_,(!De),sD,H',⟨by have:=C6.out;have:=G7.out;have:=P7.out;first|omega|exact Nat.le_refl _⟩,⟨by exact rX (Kd.R_mono C7.out (fun _ hk=>⟨hk.1.1.1.1.1.1.1.1.1,⟨hk.1.1.1.1.1.1.1.1.2.1,⟨hk.1.1.1.1.1.1.1.1.2.2,⟨hk.1.1.1.1.1.1.2,⟨hk.1.1.1.1.1.2,⟨hk.1.1.1.2,⟨hk.1.1.2,⟨hk.1.2,hk.2⟩⟩⟩⟩⟩⟩⟩⟩))⟩,⟨by exact rX (Kd.R_mono C8.out (fun _ hk=>⟨hk.1.1.1.1.1.1.1.1.1,⟨hk.1.1.1.1.1.1.1.1.2.1,⟨hk.1.1.1.1.1.1.1.1.2.2,⟨hk.1.1.1.1.1.1.2,⟨hk.1.1.1.1.1.2,⟨hk.1.1.1.2,⟨hk.1.1.2,⟨hk.1.2,hk.2⟩⟩⟩⟩⟩⟩⟩⟩))⟩,⟨by exact rX (Kd.R_mono C9.out (fun _ hk=>⟨hk.1.1.1.1.1.1.1.1.1,⟨hk.1.1.1.1.1.1.1.1.2.1,⟨hk.1.1.1.1.1.1.1.1.2.2,⟨hk.1.1.1.1.1.1.2,⟨hk.1.1.1.1.1.2,⟨hk.1.1.1.2,⟨hk.1.1.2,⟨hk.1.2,hk.2⟩⟩⟩⟩⟩⟩⟩⟩))⟩,⟨by exact rX (Kd.R_mono D0.out (fun _ hk=>⟨hk.1.1.1.1.1.1.1.1.1,⟨hk.1.1.1.1.1.1.1.1.2.1,⟨hk.1.1.1.1.1.1.1.1.2.2,⟨hk.1.1.1.1.1.1.2,⟨hk.1.1.1.1.1.2,⟨hk.1.1.1.2,⟨hk.1.1.2,⟨hk.1.2,hk.2⟩⟩⟩⟩⟩⟩⟩⟩))⟩,⟨by exact rX (Kd.R_mono V3.out (fun _ hk=>⟨hk.1.1.1.1.1.1.1.1.1.2,⟨hk.1.1.1.1.1.1.1.1.2,⟨hk.1.1.1.1.1.1.1.2,⟨hk.1.1.1.1.1.1.2,⟨hk.1.1.1.1.1.1.1.1.1.1,⟨hk.1.1.1.2,⟨hk.1.1.2,⟨hk.1.2,hk.2⟩⟩⟩⟩⟩⟩⟩⟩))⟩,⟨by exact rX (Kd.R_mono V4.out (fun _ hk=>⟨hk.1.1.1.1.1.1.1.1.1.2,⟨hk.1.1.1.1.1.1.1.1.2,⟨hk.1.1.1.1.1.1.1.2,⟨hk.1.1.1.1.1.1.2,⟨hk.1.1.1.1.1.1.1.1.1.1,⟨hk.1.1.1.2,⟨hk.1.1.2,⟨hk.1.2,hk.2⟩⟩⟩⟩⟩⟩⟩⟩))⟩,⟨by exact rX (Kd.R_mono Y9.out (fun _ hk=>⟨hk.1.1.1.1.1.1.1.1.1.2,⟨hk.1.1.1.1.1.1.1.1.2,⟨hk.1.1.1.1.1.1.1.2,⟨hk.1.1.1.1.1.1.2,⟨hk.1.1.1.1.2,⟨hk.1.1.1.2,⟨hk.1.1.1.1.1.1.1.1.1.1,⟨hk.1.2,hk.2⟩⟩⟩⟩⟩⟩⟩⟩))⟩,⟨by exact rX (Kd.R_mono Z0.out (fun _ hk=>⟨hk.1.1.1.1.1.1.1.1.1.2,⟨hk.1.1.1.1.1.1.1.1.2,⟨hk.1.1.1.1.1.1.1.2,⟨hk.1.1.1.1.1.1.2,⟨hk.1.1.1.1.2,⟨hk.1.1.1.2,⟨hk.1.1.1.1.1.1.1.1.1.1,⟨hk.1.2,hk.2⟩⟩⟩⟩⟩⟩⟩⟩))⟩,⟨by exact rX (Kd.R_mono Bh.out (fun _ hk=>⟨hk.1.1.1.1.1.1.1.1.1.2,⟨hk.1.1.1.1.1.1.1.1.2,⟨hk.1.1.1.1.1.1.1.2,⟨hk.1.1.1.1.1.1.2,⟨hk.1.1.1.1.2,⟨hk.1.1.1.2,⟨hk.1.2,⟨hk.2,hk.1.1.1.1.1.1.1.1.1.1⟩⟩⟩⟩⟩⟩⟩⟩))⟩,⟨by exact rX (Kd.R_mono Bi.out (fun _ hk=>⟨hk.1.1.1.1.1.1.1.1.1.2,⟨hk.1.1.1.1.1.1.1.1.2,⟨hk.1.1.1.1.1.1.1.2,⟨hk.1.1.1.1.1.1.2,⟨hk.1.1.1.1.2,⟨hk.1.1.1.2,⟨hk.1.2,⟨hk.2,hk.1.1.1.1.1.1.1.1.1.1⟩⟩⟩⟩⟩⟩⟩⟩))⟩,⟨by exact kW l9⟩,⟨by exact kW p5⟩,⟨by exact kW V7⟩,⟨by exact kW Z3⟩,⟨by exact kW Bl⟩,⟨pB⟩⟩
                ·obtain rfl:=bN Dd;rw[if_neg nF] at H
                 have H':=aM H;clear H;have Fd:=W4.out;have Fe:=W0.out;have Ff:=W6.out;have Fg:=W5.out;have Fh:=Aa.out;have Fi:=Ab.out;have Fj:=Bt.out;have Fk:=Bu.out;obtain⟨Fl,Fm,Fo,Fp,Fq,Fr⟩:=bk3 V7;have Fs:=Bp.out;have Ft:=Bo.out;have Fu:=Br.out;have Fv:=Bq.out;have Fw:=Bw.out;have Fx:=Bv.out;obtain⟨Fy,Fz,Ga,Gb,Gc,Gd⟩:=bk3 Bl;have fl_:True:=trivial;repeat((first|clear fl_|go_quiet (first|(go_at_call 27;(with_reducible refine(Azm.calls P8 Q3 _ _ Q4 _ _ Q5 R8 _ _ R9 _ _ U0 false _ ?_ ?_ ?_ ?_ ?_ ?_ ?_ ?_ Dc.out).mono ?_);(focus(refine(Kd.R_reads' (e:=3) (base:=w.heap.size) (ok:=fun k_=>((((((((((some k_≠(.slice X9 Q5.length Y0:Value).ownBlock∧some k_≠(.slice m9 e8.length n0:Value).ownBlock)∧some k_≠(.slice n6 e9.length n7:Value).ownBlock)∧some k_≠(.slice z7 g4.length z8:Value).ownBlock)∧some k_≠(.slice B0 g5.length B5:Value).ownBlock)∧some k_≠(.slice U8 Q0.length U9:Value).ownBlock)∧some k_≠(.slice Y4 Q9.length Y5:Value).ownBlock)∧some k_≠(.slice Ao R3.length Ap:Value).ownBlock)∧some k_≠(.slice Ar R4.length At:Value).ownBlock)∧some k_≠(.slice Cl R9.length Cm:Value).ownBlock)∧some k_≠(.slice Cn U0.length Co:Value).ownBlock)) (n:=Q4.length) (c:=X8) ?_).2.2;exact(rT V3 Bl)));exact lR V3;(focus(refine(Kd.R_reads' (e:=3) (base:=w.heap.size) (ok:=fun k_=>((((((((((some k_≠(.slice X7 Q4.length X8:Value).ownBlock∧some k_≠(.slice m9 e8.length n0:Value).ownBlock)∧some k_≠(.slice n6 e9.length n7:Value).ownBlock)∧some k_≠(.slice z7 g4.length z8:Value).ownBlock)∧some k_≠(.slice B0 g5.length B5:Value).ownBlock)∧some k_≠(.slice U8 Q0.length U9:Value).ownBlock)∧some k_≠(.slice Y4 Q9.length Y5:Value).ownBlock)∧some k_≠(.slice Ao R3.length Ap:Value).ownBlock)∧some k_≠(.slice Ar R4.length At:Value).ownBlock)∧some k_≠(.slice Cl R9.length Cm:Value).ownBlock)∧some k_≠(.slice Cn U0.length Co:Value).ownBlock)) (n:=Q5.length) (c:=Y0) ?_).2.2;exact(rT V4 Bl)));exact lR V4;(focus(refine(Kd.R_reads' (e:=3) (base:=w.heap.size) (ok:=fun k_=>((((((((((some k_≠(.slice Cn U0.length Co:Value).ownBlock∧some k_≠(.slice m9 e8.length n0:Value).ownBlock)∧some k_≠(.slice n6 e9.length n7:Value).ownBlock)∧some k_≠(.slice z7 g4.length z8:Value).ownBlock)∧some k_≠(.slice B0 g5.length B5:Value).ownBlock)∧some k_≠(.slice U8 Q0.length U9:Value).ownBlock)∧some k_≠(.slice X7 Q4.length X8:Value).ownBlock)∧some k_≠(.slice X9 Q5.length Y0:Value).ownBlock)∧some k_≠(.slice Y4 Q9.length Y5:Value).ownBlock)∧some k_≠(.slice Ao R3.length Ap:Value).ownBlock)∧some k_≠(.slice Ar R4.length At:Value).ownBlock)) (n:=R9.length) (c:=Cm) ?_).2.2;exact(rT Bh Bl)));exact lR Bh;(focus(refine(Kd.R_reads' (e:=3) (base:=w.heap.size) (ok:=fun k_=>((((((((((some k_≠(.slice Cl R9.length Cm:Value).ownBlock∧some k_≠(.slice m9 e8.length n0:Value).ownBlock)∧some k_≠(.slice n6 e9.length n7:Value).ownBlock)∧some k_≠(.slice z7 g4.length z8:Value).ownBlock)∧some k_≠(.slice B0 g5.length B5:Value).ownBlock)∧some k_≠(.slice U8 Q0.length U9:Value).ownBlock)∧some k_≠(.slice X7 Q4.length X8:Value).ownBlock)∧some k_≠(.slice X9 Q5.length Y0:Value).ownBlock)∧some k_≠(.slice Y4 Q9.length Y5:Value).ownBlock)∧some k_≠(.slice Ao R3.length Ap:Value).ownBlock)∧some k_≠(.slice Ar R4.length At:Value).ownBlock)) (n:=U0.length) (c:=Co) ?_).2.2;exact(rT Bi Bl)));exact lR Bi;rintro e Ge ⟨rfl,hb⟩;replace C7:=rb (rT C7 Bl) hb;replace C8:=rb (rT C8 Bl) hb;replace C9:=rb (rT C9 Bl) hb;replace D0:=rb (rT D0 Bl) hb;replace U7:=rb (rT U7 Bl) hb;replace V3:=rb (rT V3 Bl) hb;replace V4:=rb (rT V4 Bl) hb;replace Y3:=rb (rT Y3 Bl) hb;replace Y9:=rb (rT Y9 Bl) hb;replace Z0:=rb (rT Z0 Bl) hb;replace Bh:=rb (rT Bh Bl) hb;replace Bi:=rb (rT Bi Bl) hb;replace l9:=kF l9 Bo hb;replace p5:=kF p5 Bq hb;replace V7:=kF V7 Bt hb;replace Z3:=kF Z3 Bv hb;replace Bl:=kP (o':=.cells #[.bool R8,.slice Cl R9.length Cm,.slice Cn U0.length Co] 38 (0,0)) Bl hb;replace HB:=bB hb;clear hb)));go_wp2_with (first|(go_at_call 27;(with_reducible refine(Azm.calls P8 Q3 _ _ Q4 _ _ Q5 R8 _ _ R9 _ _ U0 false _ ?_ ?_ ?_ ?_ ?_ ?_ ?_ ?_ Dc.out).mono ?_);(focus(refine(Kd.R_reads' (e:=3) (base:=w.heap.size) (ok:=fun k_=>((((((((((some k_≠(.slice X9 Q5.length Y0:Value).ownBlock∧some k_≠(.slice m9 e8.length n0:Value).ownBlock)∧some k_≠(.slice n6 e9.length n7:Value).ownBlock)∧some k_≠(.slice z7 g4.length z8:Value).ownBlock)∧some k_≠(.slice B0 g5.length B5:Value).ownBlock)∧some k_≠(.slice U8 Q0.length U9:Value).ownBlock)∧some k_≠(.slice Y4 Q9.length Y5:Value).ownBlock)∧some k_≠(.slice Ao R3.length Ap:Value).ownBlock)∧some k_≠(.slice Ar R4.length At:Value).ownBlock)∧some k_≠(.slice Cl R9.length Cm:Value).ownBlock)∧some k_≠(.slice Cn U0.length Co:Value).ownBlock)) (n:=Q4.length) (c:=X8) ?_).2.2;exact(rT V3 Bl)));exact lR V3;(focus(refine(Kd.R_reads' (e:=3) (base:=w.heap.size) (ok:=fun k_=>((((((((((some k_≠(.slice X7 Q4.length X8:Value).ownBlock∧some k_≠(.slice m9 e8.length n0:Value).ownBlock)∧some k_≠(.slice n6 e9.length n7:Value).ownBlock)∧some k_≠(.slice z7 g4.length z8:Value).ownBlock)∧some k_≠(.slice B0 g5.length B5:Value).ownBlock)∧some k_≠(.slice U8 Q0.length U9:Value).ownBlock)∧some k_≠(.slice Y4 Q9.length Y5:Value).ownBlock)∧some k_≠(.slice Ao R3.length Ap:Value).ownBlock)∧some k_≠(.slice Ar R4.length At:Value).ownBlock)∧some k_≠(.slice Cl R9.length Cm:Value).ownBlock)∧some k_≠(.slice Cn U0.length Co:Value).ownBlock)) (n:=Q5.length) (c:=Y0) ?_).2.2;exact(rT V4 Bl)));exact lR V4;(focus(refine(Kd.R_reads' (e:=3) (base:=w.heap.size) (ok:=fun k_=>((((((((((some k_≠(.slice Cn U0.length Co:Value).ownBlock∧some k_≠(.slice m9 e8.length n0:Value).ownBlock)∧some k_≠(.slice n6 e9.length n7:Value).ownBlock)∧some k_≠(.slice z7 g4.length z8:Value).ownBlock)∧some k_≠(.slice B0 g5.length B5:Value).ownBlock)∧some k_≠(.slice U8 Q0.length U9:Value).ownBlock)∧some k_≠(.slice X7 Q4.length X8:Value).ownBlock)∧some k_≠(.slice X9 Q5.length Y0:Value).ownBlock)∧some k_≠(.slice Y4 Q9.length Y5:Value).ownBlock)∧some k_≠(.slice Ao R3.length Ap:Value).ownBlock)∧some k_≠(.slice Ar R4.length At:Value).ownBlock)) (n:=R9.length) (c:=Cm) ?_).2.2;exact(rT Bh Bl)));exact lR Bh;(focus(refine(Kd.R_reads' (e:=3) (base:=w.heap.size) (ok:=fun k_=>((((((((((some k_≠(.slice Cl R9.length Cm:Value).ownBlock∧some k_≠(.slice m9 e8.length n0:Value).ownBlock)∧some k_≠(.slice n6 e9.length n7:Value).ownBlock)∧some k_≠(.slice z7 g4.length z8:Value).ownBlock)∧some k_≠(.slice B0 g5.length B5:Value).ownBlock)∧some k_≠(.slice U8 Q0.length U9:Value).ownBlock)∧some k_≠(.slice X7 Q4.length X8:Value).ownBlock)∧some k_≠(.slice X9 Q5.length Y0:Value).ownBlock)∧some k_≠(.slice Y4 Q9.length Y5:Value).ownBlock)∧some k_≠(.slice Ao R3.length Ap:Value).ownBlock)∧some k_≠(.slice Ar R4.length At:Value).ownBlock)) (n:=U0.length) (c:=Co) ?_).2.2;exact(rT Bi Bl)));exact lR Bi;rintro e Ge ⟨rfl,hb⟩;replace C7:=rb (rT C7 Bl) hb;replace C8:=rb (rT C8 Bl) hb;replace C9:=rb (rT C9 Bl) hb;replace D0:=rb (rT D0 Bl) hb;replace U7:=rb (rT U7 Bl) hb;replace V3:=rb (rT V3 Bl) hb;replace V4:=rb (rT V4 Bl) hb;replace Y3:=rb (rT Y3 Bl) hb;replace Y9:=rb (rT Y9 Bl) hb;replace Z0:=rb (rT Z0 Bl) hb;replace Bh:=rb (rT Bh Bl) hb;replace Bi:=rb (rT Bi Bl) hb;replace l9:=kF l9 Bo hb;replace p5:=kF p5 Bq hb;replace V7:=kF V7 Bt hb;replace Z3:=kF Z3 Bv hb;replace Bl:=kP (o':=.cells #[.bool R8,.slice Cl R9.length Cm,.slice Cn U0.length Co] 38 (0,0)) Bl hb;replace HB:=bB hb;clear hb)))
                 go_meet
                 case rel=>exact⟨_,(true),sD,H',⟨by have:=C6.out;have:=G7.out;have:=P7.out;first|omega|exact Nat.le_refl _⟩,⟨by exact rX (Kd.R_mono C7.out (fun _ hk=>⟨hk.1.1.1.1.1.1.1.1.1,⟨hk.1.1.1.1.1.1.1.1.2.1,⟨hk.1.1.1.1.1.1.1.1.2.2,⟨hk.1.1.1.1.1.1.2,⟨hk.1.1.1.1.1.2,⟨hk.1.1.1.2,⟨hk.1.1.2,⟨hk.1.2,hk.2⟩⟩⟩⟩⟩⟩⟩⟩))⟩,⟨by exact rX (Kd.R_mono C8.out (fun _ hk=>⟨hk.1.1.1.1.1.1.1.1.1,⟨hk.1.1.1.1.1.1.1.1.2.1,⟨hk.1.1.1.1.1.1.1.1.2.2,⟨hk.1.1.1.1.1.1.2,⟨hk.1.1.1.1.1.2,⟨hk.1.1.1.2,⟨hk.1.1.2,⟨hk.1.2,hk.2⟩⟩⟩⟩⟩⟩⟩⟩))⟩,⟨by exact rX (Kd.R_mono C9.out (fun _ hk=>⟨hk.1.1.1.1.1.1.1.1.1,⟨hk.1.1.1.1.1.1.1.1.2.1,⟨hk.1.1.1.1.1.1.1.1.2.2,⟨hk.1.1.1.1.1.1.2,⟨hk.1.1.1.1.1.2,⟨hk.1.1.1.2,⟨hk.1.1.2,⟨hk.1.2,hk.2⟩⟩⟩⟩⟩⟩⟩⟩))⟩,⟨by exact rX (Kd.R_mono D0.out (fun _ hk=>⟨hk.1.1.1.1.1.1.1.1.1,⟨hk.1.1.1.1.1.1.1.1.2.1,⟨hk.1.1.1.1.1.1.1.1.2.2,⟨hk.1.1.1.1.1.1.2,⟨hk.1.1.1.1.1.2,⟨hk.1.1.1.2,⟨hk.1.1.2,⟨hk.1.2,hk.2⟩⟩⟩⟩⟩⟩⟩⟩))⟩,⟨by exact rX (Kd.R_mono V3.out (fun _ hk=>⟨hk.1.1.1.1.1.1.1.1.1.2,⟨hk.1.1.1.1.1.1.1.1.2,⟨hk.1.1.1.1.1.1.1.2,⟨hk.1.1.1.1.1.1.2,⟨hk.1.1.1.1.1.1.1.1.1.1,⟨hk.1.1.1.2,⟨hk.1.1.2,⟨hk.1.2,hk.2⟩⟩⟩⟩⟩⟩⟩⟩))⟩,⟨by exact rX (Kd.R_mono V4.out (fun _ hk=>⟨hk.1.1.1.1.1.1.1.1.1.2,⟨hk.1.1.1.1.1.1.1.1.2,⟨hk.1.1.1.1.1.1.1.2,⟨hk.1.1.1.1.1.1.2,⟨hk.1.1.1.1.1.1.1.1.1.1,⟨hk.1.1.1.2,⟨hk.1.1.2,⟨hk.1.2,hk.2⟩⟩⟩⟩⟩⟩⟩⟩))⟩,⟨by exact rX (Kd.R_mono Y9.out (fun _ hk=>⟨hk.1.1.1.1.1.1.1.1.1.2,⟨hk.1.1.1.1.1.1.1.1.2,⟨hk.1.1.1.1.1.1.1.2,⟨hk.1.1.1.1.1.1.2,⟨hk.1.1.1.1.2,⟨hk.1.1.1.2,⟨hk.1.1.1.1.1.1.1.1.1.1,⟨hk.1.2,hk.2⟩⟩⟩⟩⟩⟩⟩⟩))⟩,⟨by exact rX (Kd.R_mono Z0.out (fun _ hk=>⟨hk.1.1.1.1.1.1.1.1.1.2,⟨hk.1.1.1.1.1.1.1.1.2,⟨hk.1.1.1.1.1.1.1.2,⟨hk.1.1.1.1.1.1.2,⟨hk.1.1.1.1.2,⟨hk.1.1.1.2,⟨hk.1.1.1.1.1.1.1.1.1.1,⟨hk.1.2,hk.2⟩⟩⟩⟩⟩⟩⟩⟩))⟩,⟨by exact rX (Kd.R_mono Bh.out (fun _ hk=>⟨hk.1.1.1.1.1.1.1.1.1.2,⟨hk.1.1.1.1.1.1.1.1.2,⟨hk.1.1.1.1.1.1.1.2,⟨hk.1.1.1.1.1.1.2,⟨hk.1.1.1.1.2,⟨hk.1.1.1.2,⟨hk.1.2,⟨hk.2,hk.1.1.1.1.1.1.1.1.1.1⟩⟩⟩⟩⟩⟩⟩⟩))⟩,⟨by exact rX (Kd.R_mono Bi.out (fun _ hk=>⟨hk.1.1.1.1.1.1.1.1.1.2,⟨hk.1.1.1.1.1.1.1.1.2,⟨hk.1.1.1.1.1.1.1.2,⟨hk.1.1.1.1.1.1.2,⟨hk.1.1.1.1.2,⟨hk.1.1.1.2,⟨hk.1.2,⟨hk.2,hk.1.1.1.1.1.1.1.1.1.1⟩⟩⟩⟩⟩⟩⟩⟩))⟩,⟨by exact kW l9⟩,⟨by exact kW p5⟩,⟨by exact kW V7⟩,⟨by exact kW Z3⟩,⟨by exact kW Bl⟩,⟨pB⟩⟩
               ·rw[if_neg Cx] at H;have Cy:(U1 == 0)=false:=beq_eq_false_iff_ne.mpr Cx;have Cz:(U1 != 0)=true:=bne_iff_ne.mpr Cx;have H':=aM H;clear H;go_wp2
                repeat(go_quiet (fail);try go_wp2)
                go_meet
                case rel=>exact⟨_,(true),sD,H',⟨by have:=C6.out;have:=G7.out;have:=P7.out;first|omega|exact Nat.le_refl _⟩,⟨by exact Kd.R_mono (rT C7 Bl) (fun _ hk=>⟨hk.1.1.1.1.1.1.1.1.1,⟨hk.1.1.1.1.1.1.1.1.2.1,⟨hk.1.1.1.1.1.1.1.1.2.2,⟨hk.1.1.1.1.1.1.2,⟨hk.1.1.1.1.1.2,⟨hk.1.1.1.2,⟨hk.1.1.2,⟨hk.1.2,hk.2⟩⟩⟩⟩⟩⟩⟩⟩)⟩,⟨by exact Kd.R_mono (rT C8 Bl) (fun _ hk=>⟨hk.1.1.1.1.1.1.1.1.1,⟨hk.1.1.1.1.1.1.1.1.2.1,⟨hk.1.1.1.1.1.1.1.1.2.2,⟨hk.1.1.1.1.1.1.2,⟨hk.1.1.1.1.1.2,⟨hk.1.1.1.2,⟨hk.1.1.2,⟨hk.1.2,hk.2⟩⟩⟩⟩⟩⟩⟩⟩)⟩,⟨by exact Kd.R_mono (rT C9 Bl) (fun _ hk=>⟨hk.1.1.1.1.1.1.1.1.1,⟨hk.1.1.1.1.1.1.1.1.2.1,⟨hk.1.1.1.1.1.1.1.1.2.2,⟨hk.1.1.1.1.1.1.2,⟨hk.1.1.1.1.1.2,⟨hk.1.1.1.2,⟨hk.1.1.2,⟨hk.1.2,hk.2⟩⟩⟩⟩⟩⟩⟩⟩)⟩,⟨by exact Kd.R_mono (rT D0 Bl) (fun _ hk=>⟨hk.1.1.1.1.1.1.1.1.1,⟨hk.1.1.1.1.1.1.1.1.2.1,⟨hk.1.1.1.1.1.1.1.1.2.2,⟨hk.1.1.1.1.1.1.2,⟨hk.1.1.1.1.1.2,⟨hk.1.1.1.2,⟨hk.1.1.2,⟨hk.1.2,hk.2⟩⟩⟩⟩⟩⟩⟩⟩)⟩,⟨by exact Kd.R_mono (rT V3 Bl) (fun _ hk=>⟨hk.1.1.1.1.1.1.1.1.1.2,⟨hk.1.1.1.1.1.1.1.1.2,⟨hk.1.1.1.1.1.1.1.2,⟨hk.1.1.1.1.1.1.2,⟨hk.1.1.1.1.1.1.1.1.1.1,⟨hk.1.1.1.2,⟨hk.1.1.2,⟨hk.1.2,hk.2⟩⟩⟩⟩⟩⟩⟩⟩)⟩,⟨by exact Kd.R_mono (rT V4 Bl) (fun _ hk=>⟨hk.1.1.1.1.1.1.1.1.1.2,⟨hk.1.1.1.1.1.1.1.1.2,⟨hk.1.1.1.1.1.1.1.2,⟨hk.1.1.1.1.1.1.2,⟨hk.1.1.1.1.1.1.1.1.1.1,⟨hk.1.1.1.2,⟨hk.1.1.2,⟨hk.1.2,hk.2⟩⟩⟩⟩⟩⟩⟩⟩)⟩,⟨by exact Kd.R_mono (rT Y9 Bl) (fun _ hk=>⟨hk.1.1.1.1.1.1.1.1.1.2,⟨hk.1.1.1.1.1.1.1.1.2,⟨hk.1.1.1.1.1.1.1.2,⟨hk.1.1.1.1.1.1.2,⟨hk.1.1.1.1.2,⟨hk.1.1.1.2,⟨hk.1.1.1.1.1.1.1.1.1.1,⟨hk.1.2,hk.2⟩⟩⟩⟩⟩⟩⟩⟩)⟩,⟨by exact Kd.R_mono (rT Z0 Bl) (fun _ hk=>⟨hk.1.1.1.1.1.1.1.1.1.2,⟨hk.1.1.1.1.1.1.1.1.2,⟨hk.1.1.1.1.1.1.1.2,⟨hk.1.1.1.1.1.1.2,⟨hk.1.1.1.1.2,⟨hk.1.1.1.2,⟨hk.1.1.1.1.1.1.1.1.1.1,⟨hk.1.2,hk.2⟩⟩⟩⟩⟩⟩⟩⟩)⟩,⟨by exact Kd.R_mono (rT Bh Bl) (fun _ hk=>⟨hk.1.1.1.1.1.1.1.1.1.2,⟨hk.1.1.1.1.1.1.1.1.2,⟨hk.1.1.1.1.1.1.1.2,⟨hk.1.1.1.1.1.1.2,⟨hk.1.1.1.1.2,⟨hk.1.1.1.2,⟨hk.1.2,⟨hk.2,hk.1.1.1.1.1.1.1.1.1.1⟩⟩⟩⟩⟩⟩⟩⟩)⟩,⟨by exact Kd.R_mono (rT Bi Bl) (fun _ hk=>⟨hk.1.1.1.1.1.1.1.1.1.2,⟨hk.1.1.1.1.1.1.1.1.2,⟨hk.1.1.1.1.1.1.1.2,⟨hk.1.1.1.1.1.1.2,⟨hk.1.1.1.1.2,⟨hk.1.1.1.2,⟨hk.1.2,⟨hk.2,hk.1.1.1.1.1.1.1.1.1.1⟩⟩⟩⟩⟩⟩⟩⟩)⟩,⟨by exact kf l9 Bo⟩,⟨by exact kf p5 Bq⟩,⟨by exact kf V7 Bt⟩,⟨by exact kf Z3 Bv⟩,⟨by exact kQ Bl⟩,⟨pB⟩⟩
              ·rw[if_neg Cu] at H;have Cv:(R5 == 0)=false:=beq_eq_false_iff_ne.mpr Cu;have Cw:(R5 != 0)=true:=bne_iff_ne.mpr Cu;have H':=aM H;clear H;go_wp2
               repeat(go_quiet (fail);try go_wp2)
               go_meet
               case rel=>exact⟨_,(true),sD,H',⟨by have:=C6.out;have:=G7.out;have:=P7.out;first|omega|exact Nat.le_refl _⟩,⟨by exact Kd.R_mono (rT C7 Bl) (fun _ hk=>⟨hk.1.1.1.1.1.1.1.1.1,⟨hk.1.1.1.1.1.1.1.1.2.1,⟨hk.1.1.1.1.1.1.1.1.2.2,⟨hk.1.1.1.1.1.1.2,⟨hk.1.1.1.1.1.2,⟨hk.1.1.1.2,⟨hk.1.1.2,⟨hk.1.2,hk.2⟩⟩⟩⟩⟩⟩⟩⟩)⟩,⟨by exact Kd.R_mono (rT C8 Bl) (fun _ hk=>⟨hk.1.1.1.1.1.1.1.1.1,⟨hk.1.1.1.1.1.1.1.1.2.1,⟨hk.1.1.1.1.1.1.1.1.2.2,⟨hk.1.1.1.1.1.1.2,⟨hk.1.1.1.1.1.2,⟨hk.1.1.1.2,⟨hk.1.1.2,⟨hk.1.2,hk.2⟩⟩⟩⟩⟩⟩⟩⟩)⟩,⟨by exact Kd.R_mono (rT C9 Bl) (fun _ hk=>⟨hk.1.1.1.1.1.1.1.1.1,⟨hk.1.1.1.1.1.1.1.1.2.1,⟨hk.1.1.1.1.1.1.1.1.2.2,⟨hk.1.1.1.1.1.1.2,⟨hk.1.1.1.1.1.2,⟨hk.1.1.1.2,⟨hk.1.1.2,⟨hk.1.2,hk.2⟩⟩⟩⟩⟩⟩⟩⟩)⟩,⟨by exact Kd.R_mono (rT D0 Bl) (fun _ hk=>⟨hk.1.1.1.1.1.1.1.1.1,⟨hk.1.1.1.1.1.1.1.1.2.1,⟨hk.1.1.1.1.1.1.1.1.2.2,⟨hk.1.1.1.1.1.1.2,⟨hk.1.1.1.1.1.2,⟨hk.1.1.1.2,⟨hk.1.1.2,⟨hk.1.2,hk.2⟩⟩⟩⟩⟩⟩⟩⟩)⟩,⟨by exact Kd.R_mono (rT V3 Bl) (fun _ hk=>⟨hk.1.1.1.1.1.1.1.1.1.2,⟨hk.1.1.1.1.1.1.1.1.2,⟨hk.1.1.1.1.1.1.1.2,⟨hk.1.1.1.1.1.1.2,⟨hk.1.1.1.1.1.1.1.1.1.1,⟨hk.1.1.1.2,⟨hk.1.1.2,⟨hk.1.2,hk.2⟩⟩⟩⟩⟩⟩⟩⟩)⟩,⟨by exact Kd.R_mono (rT V4 Bl) (fun _ hk=>⟨hk.1.1.1.1.1.1.1.1.1.2,⟨hk.1.1.1.1.1.1.1.1.2,⟨hk.1.1.1.1.1.1.1.2,⟨hk.1.1.1.1.1.1.2,⟨hk.1.1.1.1.1.1.1.1.1.1,⟨hk.1.1.1.2,⟨hk.1.1.2,⟨hk.1.2,hk.2⟩⟩⟩⟩⟩⟩⟩⟩)⟩,⟨by exact Kd.R_mono (rT Y9 Bl) (fun _ hk=>⟨hk.1.1.1.1.1.1.1.1.1.2,⟨hk.1.1.1.1.1.1.1.1.2,⟨hk.1.1.1.1.1.1.1.2,⟨hk.1.1.1.1.1.1.2,⟨hk.1.1.1.1.2,⟨hk.1.1.1.2,⟨hk.1.1.1.1.1.1.1.1.1.1,⟨hk.1.2,hk.2⟩⟩⟩⟩⟩⟩⟩⟩)⟩,⟨by exact Kd.R_mono (rT Z0 Bl) (fun _ hk=>⟨hk.1.1.1.1.1.1.1.1.1.2,⟨hk.1.1.1.1.1.1.1.1.2,⟨hk.1.1.1.1.1.1.1.2,⟨hk.1.1.1.1.1.1.2,⟨hk.1.1.1.1.2,⟨hk.1.1.1.2,⟨hk.1.1.1.1.1.1.1.1.1.1,⟨hk.1.2,hk.2⟩⟩⟩⟩⟩⟩⟩⟩)⟩,⟨by exact Kd.R_mono (rT Bh Bl) (fun _ hk=>⟨hk.1.1.1.1.1.1.1.1.1.2,⟨hk.1.1.1.1.1.1.1.1.2,⟨hk.1.1.1.1.1.1.1.2,⟨hk.1.1.1.1.1.1.2,⟨hk.1.1.1.1.2,⟨hk.1.1.1.2,⟨hk.1.2,⟨hk.2,hk.1.1.1.1.1.1.1.1.1.1⟩⟩⟩⟩⟩⟩⟩⟩)⟩,⟨by exact Kd.R_mono (rT Bi Bl) (fun _ hk=>⟨hk.1.1.1.1.1.1.1.1.1.2,⟨hk.1.1.1.1.1.1.1.1.2,⟨hk.1.1.1.1.1.1.1.2,⟨hk.1.1.1.1.1.1.2,⟨hk.1.1.1.1.2,⟨hk.1.1.1.2,⟨hk.1.2,⟨hk.2,hk.1.1.1.1.1.1.1.1.1.1⟩⟩⟩⟩⟩⟩⟩⟩)⟩,⟨by exact kf l9 Bo⟩,⟨by exact kf p5 Bq⟩,⟨by exact kf V7 Bt⟩,⟨by exact kf Z3 Bv⟩,⟨by exact kQ Bl⟩,⟨pB⟩⟩
             ·rw[if_neg Cr] at H;have Cs:(Q6 == 0)=false:=beq_eq_false_iff_ne.mpr Cr;have Ct:(Q6 != 0)=true:=bne_iff_ne.mpr Cr;(first|rw[Cs]|(simp only[i64_w,i32_w];rw[Cs])|skip)
              have H':=aM H;clear H;go_wp2
              repeat(go_quiet (fail);try go_wp2)
              go_meet
              case rel=>exact⟨_,(true),sD,H',⟨by have:=C6.out;have:=G7.out;have:=P7.out;first|omega|exact Nat.le_refl _⟩,⟨by exact Kd.R_mono (rT C7 Bl) (fun _ hk=>⟨hk.1.1.1.1.1.1.1.1.1,⟨hk.1.1.1.1.1.1.1.1.2.1,⟨hk.1.1.1.1.1.1.1.1.2.2,⟨hk.1.1.1.1.1.1.2,⟨hk.1.1.1.1.1.2,⟨hk.1.1.1.2,⟨hk.1.1.2,⟨hk.1.2,hk.2⟩⟩⟩⟩⟩⟩⟩⟩)⟩,⟨by exact Kd.R_mono (rT C8 Bl) (fun _ hk=>⟨hk.1.1.1.1.1.1.1.1.1,⟨hk.1.1.1.1.1.1.1.1.2.1,⟨hk.1.1.1.1.1.1.1.1.2.2,⟨hk.1.1.1.1.1.1.2,⟨hk.1.1.1.1.1.2,⟨hk.1.1.1.2,⟨hk.1.1.2,⟨hk.1.2,hk.2⟩⟩⟩⟩⟩⟩⟩⟩)⟩,⟨by exact Kd.R_mono (rT C9 Bl) (fun _ hk=>⟨hk.1.1.1.1.1.1.1.1.1,⟨hk.1.1.1.1.1.1.1.1.2.1,⟨hk.1.1.1.1.1.1.1.1.2.2,⟨hk.1.1.1.1.1.1.2,⟨hk.1.1.1.1.1.2,⟨hk.1.1.1.2,⟨hk.1.1.2,⟨hk.1.2,hk.2⟩⟩⟩⟩⟩⟩⟩⟩)⟩,⟨by exact Kd.R_mono (rT D0 Bl) (fun _ hk=>⟨hk.1.1.1.1.1.1.1.1.1,⟨hk.1.1.1.1.1.1.1.1.2.1,⟨hk.1.1.1.1.1.1.1.1.2.2,⟨hk.1.1.1.1.1.1.2,⟨hk.1.1.1.1.1.2,⟨hk.1.1.1.2,⟨hk.1.1.2,⟨hk.1.2,hk.2⟩⟩⟩⟩⟩⟩⟩⟩)⟩,⟨by exact Kd.R_mono (rT V3 Bl) (fun _ hk=>⟨hk.1.1.1.1.1.1.1.1.1.2,⟨hk.1.1.1.1.1.1.1.1.2,⟨hk.1.1.1.1.1.1.1.2,⟨hk.1.1.1.1.1.1.2,⟨hk.1.1.1.1.1.1.1.1.1.1,⟨hk.1.1.1.2,⟨hk.1.1.2,⟨hk.1.2,hk.2⟩⟩⟩⟩⟩⟩⟩⟩)⟩,⟨by exact Kd.R_mono (rT V4 Bl) (fun _ hk=>⟨hk.1.1.1.1.1.1.1.1.1.2,⟨hk.1.1.1.1.1.1.1.1.2,⟨hk.1.1.1.1.1.1.1.2,⟨hk.1.1.1.1.1.1.2,⟨hk.1.1.1.1.1.1.1.1.1.1,⟨hk.1.1.1.2,⟨hk.1.1.2,⟨hk.1.2,hk.2⟩⟩⟩⟩⟩⟩⟩⟩)⟩,⟨by exact Kd.R_mono (rT Y9 Bl) (fun _ hk=>⟨hk.1.1.1.1.1.1.1.1.1.2,⟨hk.1.1.1.1.1.1.1.1.2,⟨hk.1.1.1.1.1.1.1.2,⟨hk.1.1.1.1.1.1.2,⟨hk.1.1.1.1.2,⟨hk.1.1.1.2,⟨hk.1.1.1.1.1.1.1.1.1.1,⟨hk.1.2,hk.2⟩⟩⟩⟩⟩⟩⟩⟩)⟩,⟨by exact Kd.R_mono (rT Z0 Bl) (fun _ hk=>⟨hk.1.1.1.1.1.1.1.1.1.2,⟨hk.1.1.1.1.1.1.1.1.2,⟨hk.1.1.1.1.1.1.1.2,⟨hk.1.1.1.1.1.1.2,⟨hk.1.1.1.1.2,⟨hk.1.1.1.2,⟨hk.1.1.1.1.1.1.1.1.1.1,⟨hk.1.2,hk.2⟩⟩⟩⟩⟩⟩⟩⟩)⟩,⟨by exact Kd.R_mono (rT Bh Bl) (fun _ hk=>⟨hk.1.1.1.1.1.1.1.1.1.2,⟨hk.1.1.1.1.1.1.1.1.2,⟨hk.1.1.1.1.1.1.1.2,⟨hk.1.1.1.1.1.1.2,⟨hk.1.1.1.1.2,⟨hk.1.1.1.2,⟨hk.1.2,⟨hk.2,hk.1.1.1.1.1.1.1.1.1.1⟩⟩⟩⟩⟩⟩⟩⟩)⟩,⟨by exact Kd.R_mono (rT Bi Bl) (fun _ hk=>⟨hk.1.1.1.1.1.1.1.1.1.2,⟨hk.1.1.1.1.1.1.1.1.2,⟨hk.1.1.1.1.1.1.1.2,⟨hk.1.1.1.1.1.1.2,⟨hk.1.1.1.1.2,⟨hk.1.1.1.2,⟨hk.1.2,⟨hk.2,hk.1.1.1.1.1.1.1.1.1.1⟩⟩⟩⟩⟩⟩⟩⟩)⟩,⟨by exact kf l9 Bo⟩,⟨by exact kf p5 Bq⟩,⟨by exact kf V7 Bt⟩,⟨by exact kf Z3 Bv⟩,⟨by exact kQ Bl⟩,⟨pB⟩⟩
            case rest=>as_aux_lemma =>
             clear U4;try clear C2
             try clear c2
             try clear C3
             try clear c3
             try clear d6
             try clear d7
             try clear c4
             try clear c5
             try clear c6
             try clear P2
             try clear c7
             try clear G4
             try clear q7
             try clear G5
             try clear G6
             try clear c8
             try clear c9
             try clear c10
             try clear Gf
             try clear C4
             try clear B9
             try clear C0
             try clear C1
             try clear D2
             try clear D3
             try clear D4
             try clear D5
             try clear E0
             try clear E1
             try clear E2
             try clear G8
             try clear G9
             try clear P3
             try clear H5
             try clear P4
             try clear M3
             try clear M4
             try clear M5
             try clear M6
             try clear M7
             try clear M8
             try clear M9
             try clear N0
             try clear N1
             try clear N2
             try clear N3
             try clear P5
             try clear P6
             try clear P9
             try clear Gg
             try clear Gh
             try clear Gi
             try clear Gj
             try clear Gk
             try clear Gl
             try clear Gm
             try clear Gn
             try clear Gp
             try clear Gq
             try clear Gr
             try clear Gs
             try clear Gt
             try clear Gu
             try clear Gv
             try clear Cr
             try clear Cs
             try clear Ct
             try clear Cu
             try clear Cv
             try clear Cw
             try clear Cx
             try clear Cy
             try clear Cz
             try clear Dd
             try clear Gw
             try clear Gx
             try clear Gy
             try clear Gz
             try clear Ha
             try clear Hb
             try clear Hc
             try clear Hd
             try clear He
             try clear Hf
             try clear Hg
             try clear Hh
             try clear Hi
             try clear Hj
             try clear Hk
             try clear Hl
             try clear Hm
             try clear Em
             try clear En
             try clear Eo
             try clear Ew
             try clear Ex
             try clear Ey
             try clear Fl
             try clear Fm
             try clear Fo
             try clear Fy
             try clear Fz
             try clear Ga
             try clear m3
             try clear m4
             try clear m5
             try clear t6
             try clear t7
             try clear t8
             try clear K3
             try clear K4
             try clear K5
             try clear L0
             try clear L5
             try clear L6
             try clear N6
             try clear N7
             try clear N8
             try clear O4
             try clear O5
             try clear O6
             try clear X1
             try clear X2
             try clear X3
             try clear Ai
             try clear Aj
             try clear Ak
             try clear Aw
             try clear Az
             try clear Ba
             try clear Cf
             try clear Cg
             try clear Ch
             try clear Dp
             try clear Dq
             try clear Dr
             try clear Eb
             try clear Ec
             try clear Ed
             try clear Ep
             try clear Er
             try clear Es
             try clear Ez
             try clear Fa
             try clear Fb
             try clear Fp
             try clear Fq
             try clear Fr
             try clear Gb
             try clear Gc
             try clear Gd
             try clear m6
             try clear m7
             try clear m8
             try clear z1
             try clear z2
             try clear z6
             try clear K6
             try clear K7
             try clear K8
             try clear L7
             try clear L8
             try clear L9
             try clear N9
             try clear O0
             try clear O1
             try clear O7
             try clear O8
             try clear O9
             try clear X4
             try clear X5
             try clear X6
             try clear Al
             try clear Am
             try clear An
             try clear Bb
             try clear Bc
             try clear Bd
             try clear Ci
             try clear Cj
             try clear Ck
             try clear Ds
             try clear Dt
             try clear Du
             try clear Ee
             try clear Ef
             try clear Eg
             try clear E7
             try clear F3
             try clear I4
             try clear I9
             try clear C3
             try clear P2
             try clear G4
             try clear E3
             try clear E9
             try clear I5
             try clear J0
             try clear q7
             try clear E4
             try clear F0
             try clear I6
             try clear J1
             obtain⟨kq,Cq,rfl,HA,Hn,C7,C8,C9,D0,Ho,Hp,Hq,Hr,Hs,Ht,l9,p5,V7,Z3,Bl,HB⟩:=hcut;cases kq with
             | zero=>exact absurd HA.out (by simp [papermilllaw60_StatsMoves.j3])
             | succ Hu =>
              have H:=HA.out;clear HA;simp only[papermilllaw60_StatsMoves.j3] at H;by_cases Hv:Cq=true
              ·subst Hv;rw[if_pos rfl] at H;exact absurd H (by simp)
              ·obtain rfl:=bN Hv;rw[if_neg nF] at H
               have Hw:=aM H;clear H;go_upto_region 21 with (fail)
               repeat(go_quiet (fail);go_upto_region 21 with (fail))
               go_cut [180] (fun Hx wc=>∃ (kq:Nat) (Hy:Bool),Hx=.bool Hy∧Aside0 (papermilllaw60_StatsMoves.j4 kq l0 a8 Hy e7 e8 e9 f9 g4 g5=some r)∧Aside0 (kq≤Hu)∧Aside0 (Kd.R (Kd.int .i64) 3 wc w.heap.size (fun k_=>some k_≠((.slice n6 e9.length n7):Value).ownBlock∧some k_≠((.slice z7 g4.length z8):Value).ownBlock∧some k_≠((.slice B0 g5.length B5):Value).ownBlock∧some k_≠((.slice X7 Q4.length X8):Value).ownBlock∧some k_≠((.slice X9 Q5.length Y0):Value).ownBlock∧some k_≠((.slice Ao R3.length Ap):Value).ownBlock∧some k_≠((.slice Ar R4.length At):Value).ownBlock∧some k_≠((.slice Cl R9.length Cm):Value).ownBlock∧some k_≠((.slice Cn U0.length Co):Value).ownBlock) (.slice m9 e8.length n0) e8)∧Aside0 (Kd.R (Kd.int .i64) 3 wc w.heap.size (fun k_=>some k_≠((.slice m9 e8.length n0):Value).ownBlock∧some k_≠((.slice z7 g4.length z8):Value).ownBlock∧some k_≠((.slice B0 g5.length B5):Value).ownBlock∧some k_≠((.slice X7 Q4.length X8):Value).ownBlock∧some k_≠((.slice X9 Q5.length Y0):Value).ownBlock∧some k_≠((.slice Ao R3.length Ap):Value).ownBlock∧some k_≠((.slice Ar R4.length At):Value).ownBlock∧some k_≠((.slice Cl R9.length Cm):Value).ownBlock∧some k_≠((.slice Cn U0.length Co):Value).ownBlock) (.slice n6 e9.length n7) e9)∧Aside0 (Kd.R (Kd.int .i64) 3 wc w.heap.size (fun k_=>some k_≠((.slice m9 e8.length n0):Value).ownBlock∧some k_≠((.slice n6 e9.length n7):Value).ownBlock∧some k_≠((.slice B0 g5.length B5):Value).ownBlock∧some k_≠((.slice X7 Q4.length X8):Value).ownBlock∧some k_≠((.slice X9 Q5.length Y0):Value).ownBlock∧some k_≠((.slice Ao R3.length Ap):Value).ownBlock∧some k_≠((.slice Ar R4.length At):Value).ownBlock∧some k_≠((.slice Cl R9.length Cm):Value).ownBlock∧some k_≠((.slice Cn U0.length Co):Value).ownBlock) (.slice z7 g4.length z8) g4)∧Aside0 (Kd.R (Kd.int .i64) 3 wc w.heap.size (fun k_=>some k_≠((.slice m9 e8.length n0):Value).ownBlock∧some k_≠((.slice n6 e9.length n7):Value).ownBlock∧some k_≠((.slice z7 g4.length z8):Value).ownBlock∧some k_≠((.slice X7 Q4.length X8):Value).ownBlock∧some k_≠((.slice X9 Q5.length Y0):Value).ownBlock∧some k_≠((.slice Ao R3.length Ap):Value).ownBlock∧some k_≠((.slice Ar R4.length At):Value).ownBlock∧some k_≠((.slice Cl R9.length Cm):Value).ownBlock∧some k_≠((.slice Cn U0.length Co):Value).ownBlock) (.slice B0 g5.length B5) g5)∧Aside0 (Kd.R (Kd.int .i64) 3 wc w.heap.size (fun k_=>some k_≠((.slice m9 e8.length n0):Value).ownBlock∧some k_≠((.slice n6 e9.length n7):Value).ownBlock∧some k_≠((.slice z7 g4.length z8):Value).ownBlock∧some k_≠((.slice B0 g5.length B5):Value).ownBlock∧some k_≠((.slice X9 Q5.length Y0):Value).ownBlock∧some k_≠((.slice Ao R3.length Ap):Value).ownBlock∧some k_≠((.slice Ar R4.length At):Value).ownBlock∧some k_≠((.slice Cl R9.length Cm):Value).ownBlock∧some k_≠((.slice Cn U0.length Co):Value).ownBlock) (.slice X7 Q4.length X8) Q4)∧Aside0 (Kd.R (Kd.int .i64) 3 wc w.heap.size (fun k_=>some k_≠((.slice m9 e8.length n0):Value).ownBlock∧some k_≠((.slice n6 e9.length n7):Value).ownBlock∧some k_≠((.slice z7 g4.length z8):Value).ownBlock∧some k_≠((.slice B0 g5.length B5):Value).ownBlock∧some k_≠((.slice X7 Q4.length X8):Value).ownBlock∧some k_≠((.slice Ao R3.length Ap):Value).ownBlock∧some k_≠((.slice Ar R4.length At):Value).ownBlock∧some k_≠((.slice Cl R9.length Cm):Value).ownBlock∧some k_≠((.slice Cn U0.length Co):Value).ownBlock) (.slice X9 Q5.length Y0) Q5)∧Aside0 (Kd.R (Kd.int .i64) 3 wc w.heap.size (fun k_=>some k_≠((.slice m9 e8.length n0):Value).ownBlock∧some k_≠((.slice n6 e9.length n7):Value).ownBlock∧some k_≠((.slice z7 g4.length z8):Value).ownBlock∧some k_≠((.slice B0 g5.length B5):Value).ownBlock∧some k_≠((.slice X7 Q4.length X8):Value).ownBlock∧some k_≠((.slice X9 Q5.length Y0):Value).ownBlock∧some k_≠((.slice Ar R4.length At):Value).ownBlock∧some k_≠((.slice Cl R9.length Cm):Value).ownBlock∧some k_≠((.slice Cn U0.length Co):Value).ownBlock) (.slice Ao R3.length Ap) R3)∧Aside0 (Kd.R (Kd.int .i64) 3 wc w.heap.size (fun k_=>some k_≠((.slice m9 e8.length n0):Value).ownBlock∧some k_≠((.slice n6 e9.length n7):Value).ownBlock∧some k_≠((.slice z7 g4.length z8):Value).ownBlock∧some k_≠((.slice B0 g5.length B5):Value).ownBlock∧some k_≠((.slice X7 Q4.length X8):Value).ownBlock∧some k_≠((.slice X9 Q5.length Y0):Value).ownBlock∧some k_≠((.slice Ao R3.length Ap):Value).ownBlock∧some k_≠((.slice Cl R9.length Cm):Value).ownBlock∧some k_≠((.slice Cn U0.length Co):Value).ownBlock) (.slice Ar R4.length At) R4)∧Aside0 (Kd.R (Kd.int .i64) 3 wc w.heap.size (fun k_=>some k_≠((.slice m9 e8.length n0):Value).ownBlock∧some k_≠((.slice n6 e9.length n7):Value).ownBlock∧some k_≠((.slice z7 g4.length z8):Value).ownBlock∧some k_≠((.slice B0 g5.length B5):Value).ownBlock∧some k_≠((.slice X7 Q4.length X8):Value).ownBlock∧some k_≠((.slice X9 Q5.length Y0):Value).ownBlock∧some k_≠((.slice Ao R3.length Ap):Value).ownBlock∧some k_≠((.slice Ar R4.length At):Value).ownBlock∧some k_≠((.slice Cn U0.length Co):Value).ownBlock) (.slice Cl R9.length Cm) R9)∧Aside0 (Kd.R (Kd.int .i64) 3 wc w.heap.size (fun k_=>some k_≠((.slice m9 e8.length n0):Value).ownBlock∧some k_≠((.slice n6 e9.length n7):Value).ownBlock∧some k_≠((.slice z7 g4.length z8):Value).ownBlock∧some k_≠((.slice B0 g5.length B5):Value).ownBlock∧some k_≠((.slice X7 Q4.length X8):Value).ownBlock∧some k_≠((.slice X9 Q5.length Y0):Value).ownBlock∧some k_≠((.slice Ao R3.length Ap):Value).ownBlock∧some k_≠((.slice Ar R4.length At):Value).ownBlock∧some k_≠((.slice Cl R9.length Cm):Value).ownBlock) (.slice Cn U0.length Co) U0)∧Aside0 (wc.heap[l7]?=some (.cells #[.bool e7,(.slice m9 e8.length n0),(.slice n6 e9.length n7)] 38 (0,0)))∧Aside0 (wc.heap[p0]?=some (.cells #[.bool f9,(.slice z7 g4.length z8),(.slice B0 g5.length B5)] 38 (0,0)))∧Aside0 (wc.heap[V5]?=some (.cells #[.bool Q3,(.slice X7 Q4.length X8),(.slice X9 Q5.length Y0)] 38 (0,0)))∧Aside0 (wc.heap[Z1]?=some (.cells #[.bool R2,(.slice Ao R3.length Ap),(.slice Ar R4.length At)] 38 (0,0)))∧Aside0 (wc.heap[Bj]?=some (.cells #[.bool R8,(.slice Cl R9.length Cm),(.slice Cn U0.length Co)] 38 (0,0)))∧Aside0 (Below w.heap.size w wc))
               case first =>
                have H:=Hw.out;clear Hw;by_cases Hz:a8=0
                ·rw[if_pos Hz] at H;have Ia:(a8 == 0)=true:=beq_iff_eq.mpr Hz;have Ib:(a8 != 0)=false:=bne_eq_false_iff_eq.mpr Hz;clear Hz;(first|rw[Ia]|(simp only[i64_w,i32_w];rw[Ia])|skip)
                 have H':=aM H;clear H;go_wp2
                 repeat(go_quiet (fail);try go_wp2)
                 go_meet
                 case rel=>exact⟨_,(true),sD,H',⟨by have:=C6.out;have:=G7.out;have:=P7.out;have:=Hn.out;first|omega|exact Nat.le_refl _⟩,⟨rX C7.out⟩,⟨rX C8.out⟩,⟨rX C9.out⟩,⟨rX D0.out⟩,⟨rX Ho.out⟩,⟨rX Hp.out⟩,⟨rX Hq.out⟩,⟨rX Hr.out⟩,⟨rX Hs.out⟩,⟨rX Ht.out⟩,⟨by exact kW l9⟩,⟨by exact kW p5⟩,⟨by exact kW V7⟩,⟨by exact kW Z3⟩,⟨by exact kW Bl⟩,⟨pB⟩⟩
                ·rw[if_neg Hz] at H;have Ia:(a8 == 0)=false:=beq_eq_false_iff_ne.mpr Hz;have Ib:(a8 != 0)=true:=bne_iff_ne.mpr Hz;(first|rw[Ia]|(simp only[i64_w,i32_w];rw[Ia])|skip)
                 by_cases Ic:a8 < (-1099511627776)
                 ·rw[if_pos Ic] at H;have Ie:=dE Ic;clear Ic;have H':=aM H;clear H;go_wp2
                  repeat(go_quiet (fail);try go_wp2)
                  go_meet
                  case rel=>exact⟨_,(true),sD,H',⟨by have:=C6.out;have:=G7.out;have:=P7.out;have:=Hn.out;first|omega|exact Nat.le_refl _⟩,⟨rX C7.out⟩,⟨rX C8.out⟩,⟨rX C9.out⟩,⟨rX D0.out⟩,⟨rX Ho.out⟩,⟨rX Hp.out⟩,⟨rX Hq.out⟩,⟨rX Hr.out⟩,⟨rX Hs.out⟩,⟨rX Ht.out⟩,⟨by exact kW l9⟩,⟨by exact kW p5⟩,⟨by exact kW V7⟩,⟨by exact kW Z3⟩,⟨by exact kW Bl⟩,⟨pB⟩⟩
                 ·rw[if_neg Ic] at H;have Ie:decide (a8 < (-1099511627776))=false:=decide_eq_false Ic;clear Ic;by_cases If:a8 > 1099511627776
                  ·rw[if_pos If] at H;have Ig:decide (1099511627776 < a8)=true:=dE If;clear If;have H':=aM H;clear H;go_wp2
                   repeat(go_quiet (fail);try go_wp2)
                   go_meet
                   case rel=>exact⟨_,(true),sD,H',⟨by have:=C6.out;have:=G7.out;have:=P7.out;have:=Hn.out;first|omega|exact Nat.le_refl _⟩,⟨rX C7.out⟩,⟨rX C8.out⟩,⟨rX C9.out⟩,⟨rX D0.out⟩,⟨rX Ho.out⟩,⟨rX Hp.out⟩,⟨rX Hq.out⟩,⟨rX Hr.out⟩,⟨rX Hs.out⟩,⟨rX Ht.out⟩,⟨by exact kW l9⟩,⟨by exact kW p5⟩,⟨by exact kW V7⟩,⟨by exact kW Z3⟩,⟨by exact kW Bl⟩,⟨pB⟩⟩
                  ·rw[if_neg If] at H;have Ig:decide (1099511627776 < a8)=false:=decide_eq_false If;clear If;by_cases Ih:(wrap64 (F8+a8)) < (-1099511627776)
                   ·rw[if_pos Ih] at H;have Ii:=dE Ih;have Ij:decide ((IntKind.i64.wrap (F8+a8)) < (-1099511627776))=true:=by have h_:=Ii;first|exact h_|(simp only[i64_w];exact h_)
                    clear Ih;have H':=aM H;clear H;go_wp2
                    repeat(go_quiet (fail);try go_wp2)
                    go_meet
                    case rel=>exact⟨_,(true),sD,H',⟨by have:=C6.out;have:=G7.out;have:=P7.out;have:=Hn.out;first|omega|exact Nat.le_refl _⟩,⟨rX C7.out⟩,⟨rX C8.out⟩,⟨rX C9.out⟩,⟨rX D0.out⟩,⟨rX Ho.out⟩,⟨rX Hp.out⟩,⟨rX Hq.out⟩,⟨rX Hr.out⟩,⟨rX Hs.out⟩,⟨rX Ht.out⟩,⟨by exact kW l9⟩,⟨by exact kW p5⟩,⟨by exact kW V7⟩,⟨by exact kW Z3⟩,⟨by exact kW Bl⟩,⟨pB⟩⟩
                   ·rw[if_neg Ih] at H;have Ii:decide ((wrap64 (F8+a8)) < (-1099511627776))=false:=decide_eq_false Ih;have Ij:decide ((IntKind.i64.wrap (F8+a8)) < (-1099511627776))=false:=by have h_:=Ii;first|exact h_|(simp only[i64_w];exact h_)
                    clear Ih;have H':=aM H;clear H;go_wp2
                    repeat(go_quiet (fail);try go_wp2)
                    go_meet
                    case rel=>exact⟨_,(decide ((wrap64 (F9+a8)) > 1099511627776)),sD,H',⟨by have:=C6.out;have:=G7.out;have:=P7.out;have:=Hn.out;first|omega|exact Nat.le_refl _⟩,⟨rX C7.out⟩,⟨rX C8.out⟩,⟨rX C9.out⟩,⟨rX D0.out⟩,⟨rX Ho.out⟩,⟨rX Hp.out⟩,⟨rX Hq.out⟩,⟨rX Hr.out⟩,⟨rX Hs.out⟩,⟨rX Ht.out⟩,⟨by exact kW l9⟩,⟨by exact kW p5⟩,⟨by exact kW V7⟩,⟨by exact kW Z3⟩,⟨by exact kW Bl⟩,⟨pB⟩⟩
               case rest=>as_aux_lemma =>
                clear Hw;try clear C2
                try clear c2
                try clear C3
                try clear c3
                try clear d6
                try clear d7
                try clear c4
                try clear c5
                try clear c6
                try clear P2
                try clear c7
                try clear G4
                try clear q7
                try clear G5
                try clear G6
                try clear c8
                try clear c9
                try clear c10
                try clear Gf
                try clear Ik
                try clear C4
                try clear B9
                try clear C0
                try clear C1
                try clear D2
                try clear D3
                try clear D4
                try clear D5
                try clear E0
                try clear E1
                try clear E2
                try clear G8
                try clear G9
                try clear P3
                try clear H5
                try clear P4
                try clear M3
                try clear M4
                try clear M5
                try clear M6
                try clear M7
                try clear M8
                try clear M9
                try clear N0
                try clear N1
                try clear N2
                try clear N3
                try clear P5
                try clear P6
                try clear P9
                try clear Gg
                try clear Gh
                try clear Gi
                try clear Gj
                try clear Gk
                try clear Gl
                try clear Gm
                try clear Gn
                try clear Gp
                try clear Gq
                try clear Gr
                try clear Gs
                try clear Gt
                try clear Gu
                try clear Gv
                try clear Cr
                try clear Cs
                try clear Ct
                try clear Cu
                try clear Cv
                try clear Cw
                try clear Cx
                try clear Cy
                try clear Cz
                try clear Dd
                try clear Gw
                try clear Gx
                try clear Gy
                try clear Gz
                try clear Ha
                try clear Hb
                try clear Hc
                try clear Hd
                try clear He
                try clear Hf
                try clear Hg
                try clear Hh
                try clear Hi
                try clear Hj
                try clear Hk
                try clear Hl
                try clear Hm
                try clear Hv
                try clear Hz
                try clear Ia
                try clear Ib
                try clear Ic
                try clear Ie
                try clear If
                try clear Ig
                try clear Ih
                try clear Ii
                try clear Em
                try clear En
                try clear Eo
                try clear Ew
                try clear Ex
                try clear Ey
                try clear Fl
                try clear Fm
                try clear Fo
                try clear Fy
                try clear Fz
                try clear Ga
                try clear m3
                try clear m4
                try clear m5
                try clear t6
                try clear t7
                try clear t8
                try clear K3
                try clear K4
                try clear K5
                try clear L0
                try clear L5
                try clear L6
                try clear N6
                try clear N7
                try clear N8
                try clear O4
                try clear O5
                try clear O6
                try clear X1
                try clear X2
                try clear X3
                try clear Ai
                try clear Aj
                try clear Ak
                try clear Aw
                try clear Az
                try clear Ba
                try clear Cf
                try clear Cg
                try clear Ch
                try clear Dp
                try clear Dq
                try clear Dr
                try clear Eb
                try clear Ec
                try clear Ed
                try clear Ep
                try clear Er
                try clear Es
                try clear Ez
                try clear Fa
                try clear Fb
                try clear Fp
                try clear Fq
                try clear Fr
                try clear Gb
                try clear Gc
                try clear Gd
                try clear m6
                try clear m7
                try clear m8
                try clear z1
                try clear z2
                try clear z6
                try clear K6
                try clear K7
                try clear K8
                try clear L7
                try clear L8
                try clear L9
                try clear N9
                try clear O0
                try clear O1
                try clear O7
                try clear O8
                try clear O9
                try clear X4
                try clear X5
                try clear X6
                try clear Al
                try clear Am
                try clear An
                try clear Bb
                try clear Bc
                try clear Bd
                try clear Ci
                try clear Cj
                try clear Ck
                try clear Ds
                try clear Dt
                try clear Du
                try clear Ee
                try clear Ef
                try clear Eg
                try clear E7
                try clear F3
                try clear I4
                try clear I9
                try clear C3
                try clear P2
                try clear Gi
                try clear G4
                try clear Gp
                try clear E3
                try clear E9
                try clear I5
                try clear J0
                try clear q7
                try clear Gq
                try clear E4
                try clear F0
                try clear I6
                try clear J1
                obtain⟨kq,Hy,rfl,HA,Il,C7,C8,C9,D0,Ho,Hp,Hq,Hr,Hs,Ht,l9,p5,V7,Z3,Bl,HB⟩:=hcut;cases kq with
                | zero=>exact absurd HA.out (by simp [papermilllaw60_StatsMoves.j4])
                | succ Im =>
                 have H:=HA.out;clear HA;simp only[papermilllaw60_StatsMoves.j4] at H;by_cases In:Hy=true
                 ·subst In;rw[if_pos rfl] at H;replace H:=bS H;obtain⟨Io,Ip,H⟩:=H;try dsimp only at H
                  have Iq:=aM Ip;clear Ip;obtain rfl:=Option.some.inj H;have fl_:True:=trivial;repeat((first|clear fl_|go_quiet (first|(go_at_call 10;(with_reducible refine(Azz.calls Im  Io _ Iq.out).mono ?_);rintro e Ir ⟨rfl,hb⟩;replace C7:=rB C7 hb;replace C8:=rB C8 hb;replace C9:=rB C9 hb;replace D0:=rB D0 hb;replace Ho:=rB Ho hb;replace Hp:=rB Hp hb;replace Hq:=rB Hq hb;replace Hr:=rB Hr hb;replace Hs:=rB Hs hb;replace Ht:=rB Ht hb;replace l9:=kb l9 hb;replace p5:=kb p5 hb;replace V7:=kb V7 hb;replace Z3:=kb Z3 hb;replace Bl:=kb Bl hb;replace HB:=bB hb;clear hb)));go_wp2_with (first|(go_at_call 10;(with_reducible refine(Azz.calls Im  Io _ Iq.out).mono ?_);rintro e Ir ⟨rfl,hb⟩;replace C7:=rB C7 hb;replace C8:=rB C8 hb;replace C9:=rB C9 hb;replace D0:=rB D0 hb;replace Ho:=rB Ho hb;replace Hp:=rB Hp hb;replace Hq:=rB Hq hb;replace Hr:=rB Hr hb;replace Hs:=rB Hs hb;replace Ht:=rB Ht hb;replace l9:=kb l9 hb;replace p5:=kb p5 hb;replace V7:=kb V7 hb;replace Z3:=kb Z3 hb;replace Bl:=kb Bl hb;replace HB:=bB hb;clear hb)))
                  go_ret
                  exact⟨eW,pB⟩
                 ·obtain rfl:=bN In;rw[if_neg nF] at H
                  replace H:=bS H;obtain⟨Is,Iu,H⟩:=H;try dsimp only at H
                  have Iv:=aM Iu;clear Iu;replace H:=bS H;obtain⟨⟨Iw,Ix,Iy,Iz⟩,Ja,H⟩:=H;try dsimp only at H
                  have Jb:=aM Ja;clear Ja;replace H:=bS H;obtain⟨Jc,Jd,H⟩:=H;try dsimp only at H
                  have Je:=aM Jd;clear Jd;replace H:=bS H;obtain⟨⟨Jf,Jg,Jh,Ji⟩,Jj,H⟩:=H;try dsimp only at H
                  have Jk:=aM Jj;clear Jj;replace H:=bS H;obtain⟨⟨Jl,Jm,Jn,Jo⟩,Jp,H⟩:=H;try dsimp only at H
                  have Jq:=aM Jp;clear Jp;replace H:=bS H;obtain⟨⟨Jr,Js,Jt,Ju⟩,Jv,H⟩:=H;try dsimp only at H
                  have Jw:=aM Jv;clear Jv;obtain⟨Jy,H⟩:=iO H;have Jz:(Iz == 0)=true:=beq_iff_eq.mpr Jy;have Ka:(Iz != 0)=false:=bne_eq_false_iff_eq.mpr Jy;clear Jy;obtain⟨Kb,H⟩:=iO H;have Ke:(Ji == 0)=true:=beq_iff_eq.mpr Kb;have Kf:(Ji != 0)=false:=bne_eq_false_iff_eq.mpr Kb;clear Kb;obtain⟨Kg,H⟩:=iO H;have Kh:(Jo == 0)=true:=beq_iff_eq.mpr Kg;have Ki:(Jo != 0)=false:=bne_eq_false_iff_eq.mpr Kg;clear Kg;obtain⟨Kj,H⟩:=iO H;have Kk:(Ju == 0)=true:=beq_iff_eq.mpr Kj;have Kl:(Ju != 0)=false:=bne_eq_false_iff_eq.mpr Kj;clear Kj;replace H:=bS H;obtain⟨Km,Kn,H⟩:=H;try dsimp only at H
                  have Ko:=aM Kn;clear Kn;by_cases Kp:Km=true
                  ·subst Kp;rw[if_pos rfl] at H;replace H:=bS H;obtain⟨Kq,Kr,H⟩:=H;try dsimp only at H
                   have Ks:=aM Kr;clear Kr;by_cases Kt:Kq=true
                   ·subst Kt;rw[if_pos rfl] at H;replace H:=bS H;obtain⟨Ku,Kv,H⟩:=H;try dsimp only at H
                    have Kw:=aM Kv;clear Kv;obtain rfl:=Option.some.inj H;have fl_:True:=trivial;repeat((first|clear fl_|go_quiet (first|(go_at_call 22;(with_reducible refine(Azw.calls Im _ _ l0 a8 Is _ ?_ ?_ Iv.out).mono ?_);exact cB b6;exact b7.out;rintro e Kx ⟨Ky,rfl,j8,hb⟩;have Kz:=rL (rn (rn (rn (rn (rn (rn (rn (rn (rn (rn j8 C7) C8) C9) D0) Ho) Hp) Hq) Hr) Hs) Ht);replace C7:=rE C7 j8 hb;replace C8:=rE C8 j8 hb;replace C9:=rE C9 j8 hb;replace D0:=rE D0 j8 hb;replace Ho:=rE Ho j8 hb;replace Hp:=rE Hp j8 hb;replace Hq:=rE Hq j8 hb;replace Hr:=rE Hr j8 hb;replace Hs:=rE Hs j8 hb;replace Ht:=rE Ht j8 hb;replace l9:=kb l9 hb;replace p5:=kb p5 hb;replace V7:=kb V7 hb;replace Z3:=kb Z3 hb;replace Bl:=kb Bl hb;replace HB:=bB hb;clear hb j8;obtain⟨La,Lb,rfl⟩:=Kd.R_slice Kz.out)|(go_at_call 20;(with_reducible refine(Czz.calls Im _ _ Is Iw Ix Iy Iz _ ?_ ?_ Jb.out).mono ?_);exact cR Kz;exact lR Kz;rintro e Lc ⟨Ld,Le,rfl,j8,j9,hb⟩;have Lf:=rL (rn (rn (rn (rn (rn (rn (rn (rn (rn (rn (rn j8 C7) C8) C9) D0) Ho) Hp) Hq) Hr) Hs) Ht) Kz);have Lg:=rL (rn (rn (rn (rn (rn (rn (rn (rn (rn (rn (rn j9 C7) C8) C9) D0) Ho) Hp) Hq) Hr) Hs) Ht) Kz);replace C7:=rO C7 hb j8 j9;replace C8:=rO C8 hb j8 j9;replace C9:=rO C9 hb j8 j9;replace D0:=rO D0 hb j8 j9;replace Ho:=rO Ho hb j8 j9;replace Hp:=rO Hp hb j8 j9;replace Hq:=rO Hq hb j8 j9;replace Hr:=rO Hr hb j8 j9;replace Hs:=rO Hs hb j8 j9;replace Ht:=rO Ht hb j8 j9;replace Kz:=rO Kz hb j8 j9;replace l9:=kb l9 hb;replace p5:=kb p5 hb;replace V7:=kb V7 hb;replace Z3:=kb Z3 hb;replace Bl:=kb Bl hb;replace HB:=bB hb;clear hb j8 j9)|((with_reducible refine gd 22 rfl ?_);refine bxg #[.bool false,.slice none 0 0,.slice none 0 0] 38 ?_;intro Lh hg Li Lj hb;have Lk:=gA w hg;have Ll:=gA w hg;have Lm:=nl hg l9;have Ln:=ng hg l9;have Lo:=nl hg p5;have Lp:=ng hg p5;have Lq:=nl hg V7;have Lr:=ng hg V7;have Ls:=nl hg Z3;have Lt:=ng hg Z3;have Lu:=nl hg Bl;have Lv:=ng hg Bl;replace C7:=rB C7 hb;replace C8:=rB C8 hb;replace C9:=rB C9 hb;replace D0:=rB D0 hb;replace Ho:=rB Ho hb;replace Hp:=rB Hp hb;replace Hq:=rB Hq hb;replace Hr:=rB Hr hb;replace Hs:=rB Hs hb;replace Ht:=rB Ht hb;replace Kz:=rB Kz hb;replace Lf:=rB Lf hb;replace Lg:=rB Lg hb;replace l9:=kb l9 hb;replace p5:=kb p5 hb;replace V7:=kb V7 hb;replace Z3:=kb Z3 hb;replace Bl:=kb Bl hb;replace HB:=bB hb;clear hb hg;have Lw:=Ln.out;have Lx:=Lm.out;have Ly:=Lp.out;have Lz:=Lo.out;have Ma:=Lr.out;have Mb:=Lq.out;have Mc:=Lt.out;have Md:=Ls.out;have Me:=Lv.out;have Mf:=Lu.out;obtain⟨Mg,Mh,Mi,Mj,Mk,Ml⟩:=bk3 Lj;obtain⟨Mm,Mn,rfl⟩:=Kd.R_slice Lf.out;obtain⟨Mo,Mp,rfl⟩:=Kd.R_slice Lg.out)|(go_at_call 22;(with_reducible refine(Azw.calls Im _ _ l0 a8 Jc _ ?_ ?_ Je.out).mono ?_);exact Kd.C_below b6.out pB;exact b7.out;rintro e Mq ⟨Mr,rfl,j8,hb⟩;have Ms:=rL (Kd.R_new' (Kd.R_new' (Kd.R_new' (Kd.R_new' (Kd.R_new' (Kd.R_new' (Kd.R_new' (Kd.R_new' (Kd.R_new' (Kd.R_new' (Kd.R_new' (Kd.R_new' (Kd.R_new' j8 (Kd.R_lt (rT C7 Lj))) (Kd.R_lt (rT C8 Lj))) (Kd.R_lt (rT C9 Lj))) (Kd.R_lt (rT D0 Lj))) (Kd.R_lt (rT Ho Lj))) (Kd.R_lt (rT Hp Lj))) (Kd.R_lt (rT Hq Lj))) (Kd.R_lt (rT Hr Lj))) (Kd.R_lt (rT Hs Lj))) (Kd.R_lt (rT Ht Lj))) (Kd.R_lt (rT Kz Lj))) (Kd.R_lt (rT Lf Lj))) (Kd.R_lt (rT Lg Lj)));replace C7:=re (rT C7 Lj) j8 hb;replace C8:=re (rT C8 Lj) j8 hb;replace C9:=re (rT C9 Lj) j8 hb;replace D0:=re (rT D0 Lj) j8 hb;replace Ho:=re (rT Ho Lj) j8 hb;replace Hp:=re (rT Hp Lj) j8 hb;replace Hq:=re (rT Hq Lj) j8 hb;replace Hr:=re (rT Hr Lj) j8 hb;replace Hs:=re (rT Hs Lj) j8 hb;replace Ht:=re (rT Ht Lj) j8 hb;replace Kz:=re (rT Kz Lj) j8 hb;replace Lf:=re (rT Lf Lj) j8 hb;replace Lg:=re (rT Lg Lj) j8 hb;replace l9:=kF l9 Lm hb;replace p5:=kF p5 Lo hb;replace V7:=kF V7 Lq hb;replace Z3:=kF Z3 Ls hb;replace Bl:=kF Bl Lu hb;replace Lj:=kP (o':=.cells #[.bool Iw,.slice Mm Ix.length Mn,.slice Mo Iy.length Mp] 38 (0,0)) Lj hb;replace HB:=bB hb;clear hb j8;obtain⟨Mt,Mu,rfl⟩:=Kd.R_slice Ms.out)|(go_at_call 23;(with_reducible refine(Azb.calls Im _ _ Jc Jf Jg Jh Ji _ ?_ ?_ Jk.out).mono ?_);exact cR Ms;exact lR Ms;rintro e Mv ⟨Mw,Mx,rfl,j8,j9,hb⟩;have My:=rL (rn (rn (rn (rn (rn (rn (rn (rn (rn (rn (rn (rn (rn (rn j8 C7) C8) C9) D0) Ho) Hp) Hq) Hr) Hs) Ht) Kz) Lf) Lg) Ms);have Mz:=rL (rn (rn (rn (rn (rn (rn (rn (rn (rn (rn (rn (rn (rn (rn j9 C7) C8) C9) D0) Ho) Hp) Hq) Hr) Hs) Ht) Kz) Lf) Lg) Ms);replace C7:=rO C7 hb j8 j9;replace C8:=rO C8 hb j8 j9;replace C9:=rO C9 hb j8 j9;replace D0:=rO D0 hb j8 j9;replace Ho:=rO Ho hb j8 j9;replace Hp:=rO Hp hb j8 j9;replace Hq:=rO Hq hb j8 j9;replace Hr:=rO Hr hb j8 j9;replace Hs:=rO Hs hb j8 j9;replace Ht:=rO Ht hb j8 j9;replace Kz:=rO Kz hb j8 j9;replace Lf:=rO Lf hb j8 j9;replace Lg:=rO Lg hb j8 j9;replace Ms:=rO Ms hb j8 j9;replace l9:=kb l9 hb;replace p5:=kb p5 hb;replace V7:=kb V7 hb;replace Z3:=kb Z3 hb;replace Bl:=kb Bl hb;replace Lj:=kb Lj hb;replace HB:=bB hb;clear hb j8 j9)|((with_reducible refine gd 24 rfl ?_);refine bxg #[.bool false,.slice none 0 0,.slice none 0 0] 38 ?_;intro Na hg Nb Nc hb;have Nd:=gA w hg;have Nf:=gA w hg;have Ng:=nl hg l9;have Nh:=ng hg l9;have Nk:=nl hg p5;have Nl:=ng hg p5;have Nm:=nl hg V7;have Nn:=ng hg V7;have Np:=nl hg Z3;have Nq:=ng hg Z3;have Nr:=nl hg Bl;have Ns:=ng hg Bl;have Nt:=nl hg Lj;have Nu:=ng hg Lj;replace C7:=rB C7 hb;replace C8:=rB C8 hb;replace C9:=rB C9 hb;replace D0:=rB D0 hb;replace Ho:=rB Ho hb;replace Hp:=rB Hp hb;replace Hq:=rB Hq hb;replace Hr:=rB Hr hb;replace Hs:=rB Hs hb;replace Ht:=rB Ht hb;replace Kz:=rB Kz hb;replace Lf:=rB Lf hb;replace Lg:=rB Lg hb;replace Ms:=rB Ms hb;replace My:=rB My hb;replace Mz:=rB Mz hb;replace l9:=kb l9 hb;replace p5:=kb p5 hb;replace V7:=kb V7 hb;replace Z3:=kb Z3 hb;replace Bl:=kb Bl hb;replace Lj:=kb Lj hb;replace HB:=bB hb;clear hb hg;have Nv:=Nh.out;have Nw:=Ng.out;have Nx:=Nl.out;have Ny:=Nk.out;have Nz:=Nn.out;have Oa:=Nm.out;have Ob:=Nq.out;have Oc:=Np.out;have Od:=Ns.out;have Oe:=Nr.out;have Of:=Nu.out;have Og:=Nt.out;obtain⟨Oh,Oi,Oj,Ok,Ol,Om⟩:=bk3 Nc;obtain⟨On,Oo,rfl⟩:=Kd.R_slice My.out;obtain⟨Op,Oq,rfl⟩:=Kd.R_slice Mz.out)|(go_at_call 28;(with_reducible refine(Ezq.calls Im a8 Jl Jm Jn Jo _ Jq.out).mono ?_);rintro e Os ⟨Ot,Ou,rfl,j8,j9,hb⟩;have Ov:=rL (Kd.R_new' (Kd.R_new' (Kd.R_new' (Kd.R_new' (Kd.R_new' (Kd.R_new' (Kd.R_new' (Kd.R_new' (Kd.R_new' (Kd.R_new' (Kd.R_new' (Kd.R_new' (Kd.R_new' (Kd.R_new' (Kd.R_new' (Kd.R_new' j8 (Kd.R_lt (rT C7 Nc))) (Kd.R_lt (rT C8 Nc))) (Kd.R_lt (rT C9 Nc))) (Kd.R_lt (rT D0 Nc))) (Kd.R_lt (rT Ho Nc))) (Kd.R_lt (rT Hp Nc))) (Kd.R_lt (rT Hq Nc))) (Kd.R_lt (rT Hr Nc))) (Kd.R_lt (rT Hs Nc))) (Kd.R_lt (rT Ht Nc))) (Kd.R_lt (rT Kz Nc))) (Kd.R_lt (rT Lf Nc))) (Kd.R_lt (rT Lg Nc))) (Kd.R_lt (rT Ms Nc))) (Kd.R_lt (rT My Nc))) (Kd.R_lt (rT Mz Nc)));have Ow:=rL (Kd.R_new' (Kd.R_new' (Kd.R_new' (Kd.R_new' (Kd.R_new' (Kd.R_new' (Kd.R_new' (Kd.R_new' (Kd.R_new' (Kd.R_new' (Kd.R_new' (Kd.R_new' (Kd.R_new' (Kd.R_new' (Kd.R_new' (Kd.R_new' j9 (Kd.R_lt (rT C7 Nc))) (Kd.R_lt (rT C8 Nc))) (Kd.R_lt (rT C9 Nc))) (Kd.R_lt (rT D0 Nc))) (Kd.R_lt (rT Ho Nc))) (Kd.R_lt (rT Hp Nc))) (Kd.R_lt (rT Hq Nc))) (Kd.R_lt (rT Hr Nc))) (Kd.R_lt (rT Hs Nc))) (Kd.R_lt (rT Ht Nc))) (Kd.R_lt (rT Kz Nc))) (Kd.R_lt (rT Lf Nc))) (Kd.R_lt (rT Lg Nc))) (Kd.R_lt (rT Ms Nc))) (Kd.R_lt (rT My Nc))) (Kd.R_lt (rT Mz Nc)));replace C7:=ro (rT C7 Nc) hb j8 j9;replace C8:=ro (rT C8 Nc) hb j8 j9;replace C9:=ro (rT C9 Nc) hb j8 j9;replace D0:=ro (rT D0 Nc) hb j8 j9;replace Ho:=ro (rT Ho Nc) hb j8 j9;replace Hp:=ro (rT Hp Nc) hb j8 j9;replace Hq:=ro (rT Hq Nc) hb j8 j9;replace Hr:=ro (rT Hr Nc) hb j8 j9;replace Hs:=ro (rT Hs Nc) hb j8 j9;replace Ht:=ro (rT Ht Nc) hb j8 j9;replace Kz:=ro (rT Kz Nc) hb j8 j9;replace Lf:=ro (rT Lf Nc) hb j8 j9;replace Lg:=ro (rT Lg Nc) hb j8 j9;replace Ms:=ro (rT Ms Nc) hb j8 j9;replace My:=ro (rT My Nc) hb j8 j9;replace Mz:=ro (rT Mz Nc) hb j8 j9;replace l9:=kF l9 Ng hb;replace p5:=kF p5 Nk hb;replace V7:=kF V7 Nm hb;replace Z3:=kF Z3 Np hb;replace Bl:=kF Bl Nr hb;replace Lj:=kF Lj Nt hb;replace Nc:=kP (o':=.cells #[.bool Jf,.slice On Jg.length Oo,.slice Op Jh.length Oq] 38 (0,0)) Nc hb;replace HB:=bB hb;clear hb j8 j9)|((with_reducible refine gd 26 rfl ?_);refine bxg #[.bool false,.slice none 0 0,.slice none 0 0] 38 ?_;intro Ox hg Oy Oz hb;have Pa:=gA w hg;have Pb:=gA w hg;have Pc:=nl hg l9;have Pd:=ng hg l9;have Pe:=nl hg p5;have Pf:=ng hg p5;have Pg:=nl hg V7;have Ph:=ng hg V7;have Pi:=nl hg Z3;have Pj:=ng hg Z3;have Pk:=nl hg Bl;have Pl:=ng hg Bl;have Pm:=nl hg Lj;have Pn:=ng hg Lj;have Po:=nl hg Nc;have Pp:=ng hg Nc;replace C7:=rB C7 hb;replace C8:=rB C8 hb;replace C9:=rB C9 hb;replace D0:=rB D0 hb;replace Ho:=rB Ho hb;replace Hp:=rB Hp hb;replace Hq:=rB Hq hb;replace Hr:=rB Hr hb;replace Hs:=rB Hs hb;replace Ht:=rB Ht hb;replace Kz:=rB Kz hb;replace Lf:=rB Lf hb;replace Lg:=rB Lg hb;replace Ms:=rB Ms hb;replace My:=rB My hb;replace Mz:=rB Mz hb;replace Ov:=rB Ov hb;replace Ow:=rB Ow hb;replace l9:=kb l9 hb;replace p5:=kb p5 hb;replace V7:=kb V7 hb;replace Z3:=kb Z3 hb;replace Bl:=kb Bl hb;replace Lj:=kb Lj hb;replace Nc:=kb Nc hb;replace HB:=bB hb;clear hb hg;have Pq:=Pd.out;have Pr:=Pc.out;have Ps:=Pf.out;have Pt:=Pe.out;have Pu:=Ph.out;have Pv:=Pg.out;have Pw:=Pj.out;have Px:=Pi.out;have Py:=Pl.out;have Pz:=Pk.out;have Qa:=Pn.out;have Qb:=Pm.out;have Qc:=Pp.out;have Qd:=Po.out;obtain⟨Qe,Qf,Qg,Qh,Qi,Qj⟩:=bk3 Oz;obtain⟨Qk,Ql,rfl⟩:=Kd.R_slice Ov.out;obtain⟨Qm,Qn,rfl⟩:=Kd.R_slice Ow.out;have Qo:=r6.out;have Qp:=r7.out;have Qq:=W0.out;have Qs:=W4.out;have Qt:=Z6.out;have Qu:=Z7.out;have Qv:=Bo.out;have Qw:=Bp.out;obtain⟨Qx,Qy,Qz,Ra,Rb,Rc⟩:=bk3 l9)|(go_at_call 29;(with_reducible refine(Dzp.calls Im e7 _ _ e8 _ _ e9 Jl _ _ Jm _ _ Jn Jr Js Jt Ju _ ?_ ?_ ?_ ?_ ?_ ?_ ?_ ?_ Jw.out).mono ?_);(focus(refine(Kd.R_reads' (e:=3) (base:=w.heap.size) (ok:=fun k_=>(((((((((some k_≠(.slice n6 e9.length n7:Value).ownBlock∧(some k_≠(.slice z7 g4.length z8:Value).ownBlock∧(some k_≠(.slice B0 g5.length B5:Value).ownBlock∧(some k_≠(.slice X7 Q4.length X8:Value).ownBlock∧(some k_≠(.slice X9 Q5.length Y0:Value).ownBlock∧(some k_≠(.slice Ao R3.length Ap:Value).ownBlock∧(some k_≠(.slice Ar R4.length At:Value).ownBlock∧(some k_≠(.slice Cl R9.length Cm:Value).ownBlock∧some k_≠(.slice Cn U0.length Co:Value).ownBlock))))))))∧some k_≠(.slice La Is.length Lb:Value).ownBlock)∧some k_≠(.slice Mm Ix.length Mn:Value).ownBlock)∧some k_≠(.slice Mo Iy.length Mp:Value).ownBlock)∧some k_≠(.slice Mt Jc.length Mu:Value).ownBlock)∧some k_≠(.slice On Jg.length Oo:Value).ownBlock)∧some k_≠(.slice Op Jh.length Oq:Value).ownBlock)∧some k_≠(.slice Qk Jm.length Ql:Value).ownBlock)∧some k_≠(.slice Qm Jn.length Qn:Value).ownBlock)) (n:=e8.length) (c:=n0) ?_).2.2;exact(rT C7 Oz)));exact lR C7;(focus(refine(Kd.R_reads' (e:=3) (base:=w.heap.size) (ok:=fun k_=>(((((((((some k_≠(.slice m9 e8.length n0:Value).ownBlock∧(some k_≠(.slice z7 g4.length z8:Value).ownBlock∧(some k_≠(.slice B0 g5.length B5:Value).ownBlock∧(some k_≠(.slice X7 Q4.length X8:Value).ownBlock∧(some k_≠(.slice X9 Q5.length Y0:Value).ownBlock∧(some k_≠(.slice Ao R3.length Ap:Value).ownBlock∧(some k_≠(.slice Ar R4.length At:Value).ownBlock∧(some k_≠(.slice Cl R9.length Cm:Value).ownBlock∧some k_≠(.slice Cn U0.length Co:Value).ownBlock))))))))∧some k_≠(.slice La Is.length Lb:Value).ownBlock)∧some k_≠(.slice Mm Ix.length Mn:Value).ownBlock)∧some k_≠(.slice Mo Iy.length Mp:Value).ownBlock)∧some k_≠(.slice Mt Jc.length Mu:Value).ownBlock)∧some k_≠(.slice On Jg.length Oo:Value).ownBlock)∧some k_≠(.slice Op Jh.length Oq:Value).ownBlock)∧some k_≠(.slice Qk Jm.length Ql:Value).ownBlock)∧some k_≠(.slice Qm Jn.length Qn:Value).ownBlock)) (n:=e9.length) (c:=n7) ?_).2.2;exact(rT C8 Oz)));exact lR C8;(focus(refine(Kd.R_reads' (e:=3) (base:=w.heap.size) (ok:=fun k_=>((((((((((((((((some k_≠(.slice Qm Jn.length Qn:Value).ownBlock∧some k_≠(.slice m9 e8.length n0:Value).ownBlock)∧some k_≠(.slice n6 e9.length n7:Value).ownBlock)∧some k_≠(.slice z7 g4.length z8:Value).ownBlock)∧some k_≠(.slice B0 g5.length B5:Value).ownBlock)∧some k_≠(.slice X7 Q4.length X8:Value).ownBlock)∧some k_≠(.slice X9 Q5.length Y0:Value).ownBlock)∧some k_≠(.slice Ao R3.length Ap:Value).ownBlock)∧some k_≠(.slice Ar R4.length At:Value).ownBlock)∧some k_≠(.slice Cl R9.length Cm:Value).ownBlock)∧some k_≠(.slice Cn U0.length Co:Value).ownBlock)∧some k_≠(.slice La Is.length Lb:Value).ownBlock)∧some k_≠(.slice Mm Ix.length Mn:Value).ownBlock)∧some k_≠(.slice Mo Iy.length Mp:Value).ownBlock)∧some k_≠(.slice Mt Jc.length Mu:Value).ownBlock)∧some k_≠(.slice On Jg.length Oo:Value).ownBlock)∧some k_≠(.slice Op Jh.length Oq:Value).ownBlock)) (n:=Jm.length) (c:=Ql) ?_).2.2;exact(rT Ov Oz)));exact lR Ov;(focus(refine(Kd.R_reads' (e:=3) (base:=w.heap.size) (ok:=fun k_=>((((((((((((((((some k_≠(.slice Qk Jm.length Ql:Value).ownBlock∧some k_≠(.slice m9 e8.length n0:Value).ownBlock)∧some k_≠(.slice n6 e9.length n7:Value).ownBlock)∧some k_≠(.slice z7 g4.length z8:Value).ownBlock)∧some k_≠(.slice B0 g5.length B5:Value).ownBlock)∧some k_≠(.slice X7 Q4.length X8:Value).ownBlock)∧some k_≠(.slice X9 Q5.length Y0:Value).ownBlock)∧some k_≠(.slice Ao R3.length Ap:Value).ownBlock)∧some k_≠(.slice Ar R4.length At:Value).ownBlock)∧some k_≠(.slice Cl R9.length Cm:Value).ownBlock)∧some k_≠(.slice Cn U0.length Co:Value).ownBlock)∧some k_≠(.slice La Is.length Lb:Value).ownBlock)∧some k_≠(.slice Mm Ix.length Mn:Value).ownBlock)∧some k_≠(.slice Mo Iy.length Mp:Value).ownBlock)∧some k_≠(.slice Mt Jc.length Mu:Value).ownBlock)∧some k_≠(.slice On Jg.length Oo:Value).ownBlock)∧some k_≠(.slice Op Jh.length Oq:Value).ownBlock)) (n:=Jn.length) (c:=Qn) ?_).2.2;exact(rT Ow Oz)));exact lR Ow;rintro e Rd ⟨Re,Rf,rfl,j8,j9,hb⟩;have Rg:=rL (Kd.R_new' (Kd.R_new' (Kd.R_new' (Kd.R_new' (Kd.R_new' (Kd.R_new' (Kd.R_new' (Kd.R_new' (Kd.R_new' (Kd.R_new' (Kd.R_new' (Kd.R_new' (Kd.R_new' (Kd.R_new' (Kd.R_new' (Kd.R_new' (Kd.R_new' (Kd.R_new' j8 (Kd.R_lt (rT C7 Oz))) (Kd.R_lt (rT C8 Oz))) (Kd.R_lt (rT C9 Oz))) (Kd.R_lt (rT D0 Oz))) (Kd.R_lt (rT Ho Oz))) (Kd.R_lt (rT Hp Oz))) (Kd.R_lt (rT Hq Oz))) (Kd.R_lt (rT Hr Oz))) (Kd.R_lt (rT Hs Oz))) (Kd.R_lt (rT Ht Oz))) (Kd.R_lt (rT Kz Oz))) (Kd.R_lt (rT Lf Oz))) (Kd.R_lt (rT Lg Oz))) (Kd.R_lt (rT Ms Oz))) (Kd.R_lt (rT My Oz))) (Kd.R_lt (rT Mz Oz))) (Kd.R_lt (rT Ov Oz))) (Kd.R_lt (rT Ow Oz)));have Rh:=rL (Kd.R_new' (Kd.R_new' (Kd.R_new' (Kd.R_new' (Kd.R_new' (Kd.R_new' (Kd.R_new' (Kd.R_new' (Kd.R_new' (Kd.R_new' (Kd.R_new' (Kd.R_new' (Kd.R_new' (Kd.R_new' (Kd.R_new' (Kd.R_new' (Kd.R_new' (Kd.R_new' j9 (Kd.R_lt (rT C7 Oz))) (Kd.R_lt (rT C8 Oz))) (Kd.R_lt (rT C9 Oz))) (Kd.R_lt (rT D0 Oz))) (Kd.R_lt (rT Ho Oz))) (Kd.R_lt (rT Hp Oz))) (Kd.R_lt (rT Hq Oz))) (Kd.R_lt (rT Hr Oz))) (Kd.R_lt (rT Hs Oz))) (Kd.R_lt (rT Ht Oz))) (Kd.R_lt (rT Kz Oz))) (Kd.R_lt (rT Lf Oz))) (Kd.R_lt (rT Lg Oz))) (Kd.R_lt (rT Ms Oz))) (Kd.R_lt (rT My Oz))) (Kd.R_lt (rT Mz Oz))) (Kd.R_lt (rT Ov Oz))) (Kd.R_lt (rT Ow Oz)));replace C7:=ro (rT C7 Oz) hb j8 j9;replace C8:=ro (rT C8 Oz) hb j8 j9;replace C9:=ro (rT C9 Oz) hb j8 j9;replace D0:=ro (rT D0 Oz) hb j8 j9;replace Ho:=ro (rT Ho Oz) hb j8 j9;replace Hp:=ro (rT Hp Oz) hb j8 j9;replace Hq:=ro (rT Hq Oz) hb j8 j9;replace Hr:=ro (rT Hr Oz) hb j8 j9;replace Hs:=ro (rT Hs Oz) hb j8 j9;replace Ht:=ro (rT Ht Oz) hb j8 j9;replace Kz:=ro (rT Kz Oz) hb j8 j9;replace Lf:=ro (rT Lf Oz) hb j8 j9;replace Lg:=ro (rT Lg Oz) hb j8 j9;replace Ms:=ro (rT Ms Oz) hb j8 j9;replace My:=ro (rT My Oz) hb j8 j9;replace Mz:=ro (rT Mz Oz) hb j8 j9;replace Ov:=ro (rT Ov Oz) hb j8 j9;replace Ow:=ro (rT Ow Oz) hb j8 j9;replace l9:=kF l9 Pc hb;replace p5:=kF p5 Pe hb;replace V7:=kF V7 Pg hb;replace Z3:=kF Z3 Pi hb;replace Bl:=kF Bl Pk hb;replace Lj:=kF Lj Pm hb;replace Nc:=kF Nc Po hb;replace Oz:=kP (o':=.cells #[.bool Jl,.slice Qk Jm.length Ql,.slice Qm Jn.length Qn] 38 (0,0)) Oz hb;replace HB:=bB hb;clear hb j8 j9)|((with_reducible refine gd 28 rfl ?_);refine bxg #[.bool false,.slice none 0 0,.slice none 0 0] 38 ?_;intro Ri hg Rj Rk hb;have Rl:=gA w hg;have Rm:=gA w hg;have Rn:=nl hg l9;have Ro:=ng hg l9;have Rp:=nl hg p5;have Rq:=ng hg p5;have Rs:=nl hg V7;have Rt:=ng hg V7;have Ru:=nl hg Z3;have Rv:=ng hg Z3;have Rw:=nl hg Bl;have Rx:=ng hg Bl;have Ry:=nl hg Lj;have Rz:=ng hg Lj;have Sa:=nl hg Nc;have Sb:=ng hg Nc;have Sc:=nl hg Oz;have Sd:=ng hg Oz;replace C7:=rB C7 hb;replace C8:=rB C8 hb;replace C9:=rB C9 hb;replace D0:=rB D0 hb;replace Ho:=rB Ho hb;replace Hp:=rB Hp hb;replace Hq:=rB Hq hb;replace Hr:=rB Hr hb;replace Hs:=rB Hs hb;replace Ht:=rB Ht hb;replace Kz:=rB Kz hb;replace Lf:=rB Lf hb;replace Lg:=rB Lg hb;replace Ms:=rB Ms hb;replace My:=rB My hb;replace Mz:=rB Mz hb;replace Ov:=rB Ov hb;replace Ow:=rB Ow hb;replace Rg:=rB Rg hb;replace Rh:=rB Rh hb;replace l9:=kb l9 hb;replace p5:=kb p5 hb;replace V7:=kb V7 hb;replace Z3:=kb Z3 hb;replace Bl:=kb Bl hb;replace Lj:=kb Lj hb;replace Nc:=kb Nc hb;replace Oz:=kb Oz hb;replace HB:=bB hb;clear hb hg;have Se:=Ro.out;have Sf:=Rn.out;have Sg:=Rq.out;have Sh:=Rp.out;have Si:=Rt.out;have Sj:=Rs.out;have Sk:=Rv.out;have Sl:=Ru.out;have Sm:=Rx.out;have Sn:=Rw.out;have So:=Rz.out;have Sp:=Ry.out;have Sq:=Sb.out;have Sr:=Sa.out;have Ss:=Sd.out;have St:=Sc.out;obtain⟨Su,Sv,Sw,Sx,Sy,Sz⟩:=bk3 Rk;obtain⟨Ta,Tb,rfl⟩:=Kd.R_slice Rg.out;obtain⟨Tc,Td,rfl⟩:=Kd.R_slice Rh.out;obtain⟨Te,Tf,Tg,Th,Ti,Tj⟩:=bk3 Lj)|(go_at_call 27;(with_reducible refine(Azm.calls Im Iw _ _ Ix _ _ Iy Jr _ _ Js _ _ Jt true _ ?_ ?_ ?_ ?_ ?_ ?_ ?_ ?_ Ko.out).mono ?_);(focus(refine(Kd.R_reads' (e:=3) (base:=w.heap.size) (ok:=fun k_=>((((((((((((((((((some k_≠(.slice Mo Iy.length Mp:Value).ownBlock∧some k_≠(.slice m9 e8.length n0:Value).ownBlock)∧some k_≠(.slice n6 e9.length n7:Value).ownBlock)∧some k_≠(.slice z7 g4.length z8:Value).ownBlock)∧some k_≠(.slice B0 g5.length B5:Value).ownBlock)∧some k_≠(.slice X7 Q4.length X8:Value).ownBlock)∧some k_≠(.slice X9 Q5.length Y0:Value).ownBlock)∧some k_≠(.slice Ao R3.length Ap:Value).ownBlock)∧some k_≠(.slice Ar R4.length At:Value).ownBlock)∧some k_≠(.slice Cl R9.length Cm:Value).ownBlock)∧some k_≠(.slice Cn U0.length Co:Value).ownBlock)∧some k_≠(.slice La Is.length Lb:Value).ownBlock)∧some k_≠(.slice Mt Jc.length Mu:Value).ownBlock)∧some k_≠(.slice On Jg.length Oo:Value).ownBlock)∧some k_≠(.slice Op Jh.length Oq:Value).ownBlock)∧some k_≠(.slice Qk Jm.length Ql:Value).ownBlock)∧some k_≠(.slice Qm Jn.length Qn:Value).ownBlock)∧some k_≠(.slice Ta Js.length Tb:Value).ownBlock)∧some k_≠(.slice Tc Jt.length Td:Value).ownBlock)) (n:=Ix.length) (c:=Mn) ?_).2.2;exact(rT Lf Rk)));exact lR Lf;(focus(refine(Kd.R_reads' (e:=3) (base:=w.heap.size) (ok:=fun k_=>((((((((((((((((((some k_≠(.slice Mm Ix.length Mn:Value).ownBlock∧some k_≠(.slice m9 e8.length n0:Value).ownBlock)∧some k_≠(.slice n6 e9.length n7:Value).ownBlock)∧some k_≠(.slice z7 g4.length z8:Value).ownBlock)∧some k_≠(.slice B0 g5.length B5:Value).ownBlock)∧some k_≠(.slice X7 Q4.length X8:Value).ownBlock)∧some k_≠(.slice X9 Q5.length Y0:Value).ownBlock)∧some k_≠(.slice Ao R3.length Ap:Value).ownBlock)∧some k_≠(.slice Ar R4.length At:Value).ownBlock)∧some k_≠(.slice Cl R9.length Cm:Value).ownBlock)∧some k_≠(.slice Cn U0.length Co:Value).ownBlock)∧some k_≠(.slice La Is.length Lb:Value).ownBlock)∧some k_≠(.slice Mt Jc.length Mu:Value).ownBlock)∧some k_≠(.slice On Jg.length Oo:Value).ownBlock)∧some k_≠(.slice Op Jh.length Oq:Value).ownBlock)∧some k_≠(.slice Qk Jm.length Ql:Value).ownBlock)∧some k_≠(.slice Qm Jn.length Qn:Value).ownBlock)∧some k_≠(.slice Ta Js.length Tb:Value).ownBlock)∧some k_≠(.slice Tc Jt.length Td:Value).ownBlock)) (n:=Iy.length) (c:=Mp) ?_).2.2;exact(rT Lg Rk)));exact lR Lg;(focus(refine(Kd.R_reads' (e:=3) (base:=w.heap.size) (ok:=fun k_=>((((((((((((((((((some k_≠(.slice Tc Jt.length Td:Value).ownBlock∧some k_≠(.slice m9 e8.length n0:Value).ownBlock)∧some k_≠(.slice n6 e9.length n7:Value).ownBlock)∧some k_≠(.slice z7 g4.length z8:Value).ownBlock)∧some k_≠(.slice B0 g5.length B5:Value).ownBlock)∧some k_≠(.slice X7 Q4.length X8:Value).ownBlock)∧some k_≠(.slice X9 Q5.length Y0:Value).ownBlock)∧some k_≠(.slice Ao R3.length Ap:Value).ownBlock)∧some k_≠(.slice Ar R4.length At:Value).ownBlock)∧some k_≠(.slice Cl R9.length Cm:Value).ownBlock)∧some k_≠(.slice Cn U0.length Co:Value).ownBlock)∧some k_≠(.slice La Is.length Lb:Value).ownBlock)∧some k_≠(.slice Mm Ix.length Mn:Value).ownBlock)∧some k_≠(.slice Mo Iy.length Mp:Value).ownBlock)∧some k_≠(.slice Mt Jc.length Mu:Value).ownBlock)∧some k_≠(.slice On Jg.length Oo:Value).ownBlock)∧some k_≠(.slice Op Jh.length Oq:Value).ownBlock)∧some k_≠(.slice Qk Jm.length Ql:Value).ownBlock)∧some k_≠(.slice Qm Jn.length Qn:Value).ownBlock)) (n:=Js.length) (c:=Tb) ?_).2.2;exact(rT Rg Rk)));exact lR Rg;(focus(refine(Kd.R_reads' (e:=3) (base:=w.heap.size) (ok:=fun k_=>((((((((((((((((((some k_≠(.slice Ta Js.length Tb:Value).ownBlock∧some k_≠(.slice m9 e8.length n0:Value).ownBlock)∧some k_≠(.slice n6 e9.length n7:Value).ownBlock)∧some k_≠(.slice z7 g4.length z8:Value).ownBlock)∧some k_≠(.slice B0 g5.length B5:Value).ownBlock)∧some k_≠(.slice X7 Q4.length X8:Value).ownBlock)∧some k_≠(.slice X9 Q5.length Y0:Value).ownBlock)∧some k_≠(.slice Ao R3.length Ap:Value).ownBlock)∧some k_≠(.slice Ar R4.length At:Value).ownBlock)∧some k_≠(.slice Cl R9.length Cm:Value).ownBlock)∧some k_≠(.slice Cn U0.length Co:Value).ownBlock)∧some k_≠(.slice La Is.length Lb:Value).ownBlock)∧some k_≠(.slice Mm Ix.length Mn:Value).ownBlock)∧some k_≠(.slice Mo Iy.length Mp:Value).ownBlock)∧some k_≠(.slice Mt Jc.length Mu:Value).ownBlock)∧some k_≠(.slice On Jg.length Oo:Value).ownBlock)∧some k_≠(.slice Op Jh.length Oq:Value).ownBlock)∧some k_≠(.slice Qk Jm.length Ql:Value).ownBlock)∧some k_≠(.slice Qm Jn.length Qn:Value).ownBlock)) (n:=Jt.length) (c:=Td) ?_).2.2;exact(rT Rh Rk)));exact lR Rh;rintro e Tk ⟨rfl,hb⟩;replace C7:=rb (rT C7 Rk) hb;replace C8:=rb (rT C8 Rk) hb;replace C9:=rb (rT C9 Rk) hb;replace D0:=rb (rT D0 Rk) hb;replace Ho:=rb (rT Ho Rk) hb;replace Hp:=rb (rT Hp Rk) hb;replace Hq:=rb (rT Hq Rk) hb;replace Hr:=rb (rT Hr Rk) hb;replace Hs:=rb (rT Hs Rk) hb;replace Ht:=rb (rT Ht Rk) hb;replace Kz:=rb (rT Kz Rk) hb;replace Lf:=rb (rT Lf Rk) hb;replace Lg:=rb (rT Lg Rk) hb;replace Ms:=rb (rT Ms Rk) hb;replace My:=rb (rT My Rk) hb;replace Mz:=rb (rT Mz Rk) hb;replace Ov:=rb (rT Ov Rk) hb;replace Ow:=rb (rT Ow Rk) hb;replace Rg:=rb (rT Rg Rk) hb;replace Rh:=rb (rT Rh Rk) hb;replace l9:=kF l9 Rn hb;replace p5:=kF p5 Rp hb;replace V7:=kF V7 Rs hb;replace Z3:=kF Z3 Ru hb;replace Bl:=kF Bl Rw hb;replace Lj:=kF Lj Ry hb;replace Nc:=kF Nc Sa hb;replace Oz:=kF Oz Sc hb;replace Rk:=kP (o':=.cells #[.bool Jr,.slice Ta Js.length Tb,.slice Tc Jt.length Td] 38 (0,0)) Rk hb;replace HB:=bB hb;clear hb;obtain⟨Tl,Tm,Tn,To,Tp,Tq⟩:=bk3 Nc;have Tr:=W5.out;have Ts:=W6.out;have Tt:=Z8.out;have Tu:=Z9.out;have Tv:=Bq.out;have Tw:=Br.out;obtain⟨Tx,Ty,Tz,Ua,Ub,Uc⟩:=bk3 p5)|(go_at_call 27;(with_reducible refine(Azm.calls Im Jf _ _ Jg _ _ Jh f9 _ _ g4 _ _ g5 true _ ?_ ?_ ?_ ?_ ?_ ?_ ?_ ?_ Ks.out).mono ?_);exact cR My;exact lR My;exact cR Mz;exact lR Mz;exact cR C9;exact lR C9;exact cR D0;exact lR D0;rintro e Ud ⟨rfl,hb⟩;replace C7:=rB C7 hb;replace C8:=rB C8 hb;replace C9:=rB C9 hb;replace D0:=rB D0 hb;replace Ho:=rB Ho hb;replace Hp:=rB Hp hb;replace Hq:=rB Hq hb;replace Hr:=rB Hr hb;replace Hs:=rB Hs hb;replace Ht:=rB Ht hb;replace Kz:=rB Kz hb;replace Lf:=rB Lf hb;replace Lg:=rB Lg hb;replace Ms:=rB Ms hb;replace My:=rB My hb;replace Mz:=rB Mz hb;replace Ov:=rB Ov hb;replace Ow:=rB Ow hb;replace Rg:=rB Rg hb;replace Rh:=rB Rh hb;replace l9:=kb l9 hb;replace p5:=kb p5 hb;replace V7:=kb V7 hb;replace Z3:=kb Z3 hb;replace Bl:=kb Bl hb;replace Lj:=kb Lj hb;replace Nc:=kb Nc hb;replace Oz:=kb Oz hb;replace Rk:=kb Rk hb;replace HB:=bB hb;clear hb)|(go_at_call 10;(with_reducible refine(Azz.calls Im  Ku _ Kw.out).mono ?_);rintro e Ue ⟨rfl,hb⟩;replace C7:=rB C7 hb;replace C8:=rB C8 hb;replace C9:=rB C9 hb;replace D0:=rB D0 hb;replace Ho:=rB Ho hb;replace Hp:=rB Hp hb;replace Hq:=rB Hq hb;replace Hr:=rB Hr hb;replace Hs:=rB Hs hb;replace Ht:=rB Ht hb;replace Kz:=rB Kz hb;replace Lf:=rB Lf hb;replace Lg:=rB Lg hb;replace Ms:=rB Ms hb;replace My:=rB My hb;replace Mz:=rB Mz hb;replace Ov:=rB Ov hb;replace Ow:=rB Ow hb;replace Rg:=rB Rg hb;replace Rh:=rB Rh hb;replace l9:=kb l9 hb;replace p5:=kb p5 hb;replace V7:=kb V7 hb;replace Z3:=kb Z3 hb;replace Bl:=kb Bl hb;replace Lj:=kb Lj hb;replace Nc:=kb Nc hb;replace Oz:=kb Oz hb;replace Rk:=kb Rk hb;replace HB:=bB hb;clear hb)));go_wp2_with (first|(go_at_call 22;(with_reducible refine(Azw.calls Im _ _ l0 a8 Is _ ?_ ?_ Iv.out).mono ?_);exact cB b6;exact b7.out;rintro e Kx ⟨Ky,rfl,j8,hb⟩;have Kz:=rL (rn (rn (rn (rn (rn (rn (rn (rn (rn (rn j8 C7) C8) C9) D0) Ho) Hp) Hq) Hr) Hs) Ht);replace C7:=rE C7 j8 hb;replace C8:=rE C8 j8 hb;replace C9:=rE C9 j8 hb;replace D0:=rE D0 j8 hb;replace Ho:=rE Ho j8 hb;replace Hp:=rE Hp j8 hb;replace Hq:=rE Hq j8 hb;replace Hr:=rE Hr j8 hb;replace Hs:=rE Hs j8 hb;replace Ht:=rE Ht j8 hb;replace l9:=kb l9 hb;replace p5:=kb p5 hb;replace V7:=kb V7 hb;replace Z3:=kb Z3 hb;replace Bl:=kb Bl hb;replace HB:=bB hb;clear hb j8;obtain⟨La,Lb,rfl⟩:=Kd.R_slice Kz.out)|(go_at_call 20;(with_reducible refine(Czz.calls Im _ _ Is Iw Ix Iy Iz _ ?_ ?_ Jb.out).mono ?_);exact cR Kz;exact lR Kz;rintro e Lc ⟨Ld,Le,rfl,j8,j9,hb⟩;have Lf:=rL (rn (rn (rn (rn (rn (rn (rn (rn (rn (rn (rn j8 C7) C8) C9) D0) Ho) Hp) Hq) Hr) Hs) Ht) Kz);have Lg:=rL (rn (rn (rn (rn (rn (rn (rn (rn (rn (rn (rn j9 C7) C8) C9) D0) Ho) Hp) Hq) Hr) Hs) Ht) Kz);replace C7:=rO C7 hb j8 j9;replace C8:=rO C8 hb j8 j9;replace C9:=rO C9 hb j8 j9;replace D0:=rO D0 hb j8 j9;replace Ho:=rO Ho hb j8 j9;replace Hp:=rO Hp hb j8 j9;replace Hq:=rO Hq hb j8 j9;replace Hr:=rO Hr hb j8 j9;replace Hs:=rO Hs hb j8 j9;replace Ht:=rO Ht hb j8 j9;replace Kz:=rO Kz hb j8 j9;replace l9:=kb l9 hb;replace p5:=kb p5 hb;replace V7:=kb V7 hb;replace Z3:=kb Z3 hb;replace Bl:=kb Bl hb;replace HB:=bB hb;clear hb j8 j9)|((with_reducible refine gd 22 rfl ?_);refine bxg #[.bool false,.slice none 0 0,.slice none 0 0] 38 ?_;intro Lh hg Li Lj hb;have Lk:=gA w hg;have Ll:=gA w hg;have Lm:=nl hg l9;have Ln:=ng hg l9;have Lo:=nl hg p5;have Lp:=ng hg p5;have Lq:=nl hg V7;have Lr:=ng hg V7;have Ls:=nl hg Z3;have Lt:=ng hg Z3;have Lu:=nl hg Bl;have Lv:=ng hg Bl;replace C7:=rB C7 hb;replace C8:=rB C8 hb;replace C9:=rB C9 hb;replace D0:=rB D0 hb;replace Ho:=rB Ho hb;replace Hp:=rB Hp hb;replace Hq:=rB Hq hb;replace Hr:=rB Hr hb;replace Hs:=rB Hs hb;replace Ht:=rB Ht hb;replace Kz:=rB Kz hb;replace Lf:=rB Lf hb;replace Lg:=rB Lg hb;replace l9:=kb l9 hb;replace p5:=kb p5 hb;replace V7:=kb V7 hb;replace Z3:=kb Z3 hb;replace Bl:=kb Bl hb;replace HB:=bB hb;clear hb hg;have Lw:=Ln.out;have Lx:=Lm.out;have Ly:=Lp.out;have Lz:=Lo.out;have Ma:=Lr.out;have Mb:=Lq.out;have Mc:=Lt.out;have Md:=Ls.out;have Me:=Lv.out;have Mf:=Lu.out;obtain⟨Mg,Mh,Mi,Mj,Mk,Ml⟩:=bk3 Lj;obtain⟨Mm,Mn,rfl⟩:=Kd.R_slice Lf.out;obtain⟨Mo,Mp,rfl⟩:=Kd.R_slice Lg.out)|(go_at_call 22;(with_reducible refine(Azw.calls Im _ _ l0 a8 Jc _ ?_ ?_ Je.out).mono ?_);exact Kd.C_below b6.out pB;exact b7.out;rintro e Mq ⟨Mr,rfl,j8,hb⟩;have Ms:=rL (Kd.R_new' (Kd.R_new' (Kd.R_new' (Kd.R_new' (Kd.R_new' (Kd.R_new' (Kd.R_new' (Kd.R_new' (Kd.R_new' (Kd.R_new' (Kd.R_new' (Kd.R_new' (Kd.R_new' j8 (Kd.R_lt (rT C7 Lj))) (Kd.R_lt (rT C8 Lj))) (Kd.R_lt (rT C9 Lj))) (Kd.R_lt (rT D0 Lj))) (Kd.R_lt (rT Ho Lj))) (Kd.R_lt (rT Hp Lj))) (Kd.R_lt (rT Hq Lj))) (Kd.R_lt (rT Hr Lj))) (Kd.R_lt (rT Hs Lj))) (Kd.R_lt (rT Ht Lj))) (Kd.R_lt (rT Kz Lj))) (Kd.R_lt (rT Lf Lj))) (Kd.R_lt (rT Lg Lj)));replace C7:=re (rT C7 Lj) j8 hb;replace C8:=re (rT C8 Lj) j8 hb;replace C9:=re (rT C9 Lj) j8 hb;replace D0:=re (rT D0 Lj) j8 hb;replace Ho:=re (rT Ho Lj) j8 hb;replace Hp:=re (rT Hp Lj) j8 hb;replace Hq:=re (rT Hq Lj) j8 hb;replace Hr:=re (rT Hr Lj) j8 hb;replace Hs:=re (rT Hs Lj) j8 hb;replace Ht:=re (rT Ht Lj) j8 hb;replace Kz:=re (rT Kz Lj) j8 hb;replace Lf:=re (rT Lf Lj) j8 hb;replace Lg:=re (rT Lg Lj) j8 hb;replace l9:=kF l9 Lm hb;replace p5:=kF p5 Lo hb;replace V7:=kF V7 Lq hb;replace Z3:=kF Z3 Ls hb;replace Bl:=kF Bl Lu hb;replace Lj:=kP (o':=.cells #[.bool Iw,.slice Mm Ix.length Mn,.slice Mo Iy.length Mp] 38 (0,0)) Lj hb;replace HB:=bB hb;clear hb j8;obtain⟨Mt,Mu,rfl⟩:=Kd.R_slice Ms.out)|(go_at_call 23;(with_reducible refine(Azb.calls Im _ _ Jc Jf Jg Jh Ji _ ?_ ?_ Jk.out).mono ?_);exact cR Ms;exact lR Ms;rintro e Mv ⟨Mw,Mx,rfl,j8,j9,hb⟩;have My:=rL (rn (rn (rn (rn (rn (rn (rn (rn (rn (rn (rn (rn (rn (rn j8 C7) C8) C9) D0) Ho) Hp) Hq) Hr) Hs) Ht) Kz) Lf) Lg) Ms);have Mz:=rL (rn (rn (rn (rn (rn (rn (rn (rn (rn (rn (rn (rn (rn (rn j9 C7) C8) C9) D0) Ho) Hp) Hq) Hr) Hs) Ht) Kz) Lf) Lg) Ms);replace C7:=rO C7 hb j8 j9;replace C8:=rO C8 hb j8 j9;replace C9:=rO C9 hb j8 j9;replace D0:=rO D0 hb j8 j9;replace Ho:=rO Ho hb j8 j9;replace Hp:=rO Hp hb j8 j9;replace Hq:=rO Hq hb j8 j9;replace Hr:=rO Hr hb j8 j9;replace Hs:=rO Hs hb j8 j9;replace Ht:=rO Ht hb j8 j9;replace Kz:=rO Kz hb j8 j9;replace Lf:=rO Lf hb j8 j9;replace Lg:=rO Lg hb j8 j9;replace Ms:=rO Ms hb j8 j9;replace l9:=kb l9 hb;replace p5:=kb p5 hb;replace V7:=kb V7 hb;replace Z3:=kb Z3 hb;replace Bl:=kb Bl hb;replace Lj:=kb Lj hb;replace HB:=bB hb;clear hb j8 j9)|((with_reducible refine gd 24 rfl ?_);refine bxg #[.bool false,.slice none 0 0,.slice none 0 0] 38 ?_;intro Na hg Nb Nc hb;have Nd:=gA w hg;have Nf:=gA w hg;have Ng:=nl hg l9;have Nh:=ng hg l9;have Nk:=nl hg p5;have Nl:=ng hg p5;have Nm:=nl hg V7;have Nn:=ng hg V7;have Np:=nl hg Z3;have Nq:=ng hg Z3;have Nr:=nl hg Bl;have Ns:=ng hg Bl;have Nt:=nl hg Lj;have Nu:=ng hg Lj;replace C7:=rB C7 hb;replace C8:=rB C8 hb;replace C9:=rB C9 hb;replace D0:=rB D0 hb;replace Ho:=rB Ho hb;replace Hp:=rB Hp hb;replace Hq:=rB Hq hb;replace Hr:=rB Hr hb;replace Hs:=rB Hs hb;replace Ht:=rB Ht hb;replace Kz:=rB Kz hb;replace Lf:=rB Lf hb;replace Lg:=rB Lg hb;replace Ms:=rB Ms hb;replace My:=rB My hb;replace Mz:=rB Mz hb;replace l9:=kb l9 hb;replace p5:=kb p5 hb;replace V7:=kb V7 hb;replace Z3:=kb Z3 hb;replace Bl:=kb Bl hb;replace Lj:=kb Lj hb;replace HB:=bB hb;clear hb hg;have Nv:=Nh.out;have Nw:=Ng.out;have Nx:=Nl.out;have Ny:=Nk.out;have Nz:=Nn.out;have Oa:=Nm.out;have Ob:=Nq.out;have Oc:=Np.out;have Od:=Ns.out;have Oe:=Nr.out;have Of:=Nu.out;have Og:=Nt.out;obtain⟨Oh,Oi,Oj,Ok,Ol,Om⟩:=bk3 Nc;obtain⟨On,Oo,rfl⟩:=Kd.R_slice My.out;obtain⟨Op,Oq,rfl⟩:=Kd.R_slice Mz.out)|(go_at_call 28;(with_reducible refine(Ezq.calls Im a8 Jl Jm Jn Jo _ Jq.out).mono ?_);rintro e Os ⟨Ot,Ou,rfl,j8,j9,hb⟩;have Ov:=rL (Kd.R_new' (Kd.R_new' (Kd.R_new' (Kd.R_new' (Kd.R_new' (Kd.R_new' (Kd.R_new' (Kd.R_new' (Kd.R_new' (Kd.R_new' (Kd.R_new' (Kd.R_new' (Kd.R_new' (Kd.R_new' (Kd.R_new' (Kd.R_new' j8 (Kd.R_lt (rT C7 Nc))) (Kd.R_lt (rT C8 Nc))) (Kd.R_lt (rT C9 Nc))) (Kd.R_lt (rT D0 Nc))) (Kd.R_lt (rT Ho Nc))) (Kd.R_lt (rT Hp Nc))) (Kd.R_lt (rT Hq Nc))) (Kd.R_lt (rT Hr Nc))) (Kd.R_lt (rT Hs Nc))) (Kd.R_lt (rT Ht Nc))) (Kd.R_lt (rT Kz Nc))) (Kd.R_lt (rT Lf Nc))) (Kd.R_lt (rT Lg Nc))) (Kd.R_lt (rT Ms Nc))) (Kd.R_lt (rT My Nc))) (Kd.R_lt (rT Mz Nc)));have Ow:=rL (Kd.R_new' (Kd.R_new' (Kd.R_new' (Kd.R_new' (Kd.R_new' (Kd.R_new' (Kd.R_new' (Kd.R_new' (Kd.R_new' (Kd.R_new' (Kd.R_new' (Kd.R_new' (Kd.R_new' (Kd.R_new' (Kd.R_new' (Kd.R_new' j9 (Kd.R_lt (rT C7 Nc))) (Kd.R_lt (rT C8 Nc))) (Kd.R_lt (rT C9 Nc))) (Kd.R_lt (rT D0 Nc))) (Kd.R_lt (rT Ho Nc))) (Kd.R_lt (rT Hp Nc))) (Kd.R_lt (rT Hq Nc))) (Kd.R_lt (rT Hr Nc))) (Kd.R_lt (rT Hs Nc))) (Kd.R_lt (rT Ht Nc))) (Kd.R_lt (rT Kz Nc))) (Kd.R_lt (rT Lf Nc))) (Kd.R_lt (rT Lg Nc))) (Kd.R_lt (rT Ms Nc))) (Kd.R_lt (rT My Nc))) (Kd.R_lt (rT Mz Nc)));replace C7:=ro (rT C7 Nc) hb j8 j9;replace C8:=ro (rT C8 Nc) hb j8 j9;replace C9:=ro (rT C9 Nc) hb j8 j9;replace D0:=ro (rT D0 Nc) hb j8 j9;replace Ho:=ro (rT Ho Nc) hb j8 j9;replace Hp:=ro (rT Hp Nc) hb j8 j9;replace Hq:=ro (rT Hq Nc) hb j8 j9;replace Hr:=ro (rT Hr Nc) hb j8 j9;replace Hs:=ro (rT Hs Nc) hb j8 j9;replace Ht:=ro (rT Ht Nc) hb j8 j9;replace Kz:=ro (rT Kz Nc) hb j8 j9;replace Lf:=ro (rT Lf Nc) hb j8 j9;replace Lg:=ro (rT Lg Nc) hb j8 j9;replace Ms:=ro (rT Ms Nc) hb j8 j9;replace My:=ro (rT My Nc) hb j8 j9;replace Mz:=ro (rT Mz Nc) hb j8 j9;replace l9:=kF l9 Ng hb;replace p5:=kF p5 Nk hb;replace V7:=kF V7 Nm hb;replace Z3:=kF Z3 Np hb;replace Bl:=kF Bl Nr hb;replace Lj:=kF Lj Nt hb;replace Nc:=kP (o':=.cells #[.bool Jf,.slice On Jg.length Oo,.slice Op Jh.length Oq] 38 (0,0)) Nc hb;replace HB:=bB hb;clear hb j8 j9)|((with_reducible refine gd 26 rfl ?_);refine bxg #[.bool false,.slice none 0 0,.slice none 0 0] 38 ?_;intro Ox hg Oy Oz hb;have Pa:=gA w hg;have Pb:=gA w hg;have Pc:=nl hg l9;have Pd:=ng hg l9;have Pe:=nl hg p5;have Pf:=ng hg p5;have Pg:=nl hg V7;have Ph:=ng hg V7;have Pi:=nl hg Z3;have Pj:=ng hg Z3;have Pk:=nl hg Bl;have Pl:=ng hg Bl;have Pm:=nl hg Lj;have Pn:=ng hg Lj;have Po:=nl hg Nc;have Pp:=ng hg Nc;replace C7:=rB C7 hb;replace C8:=rB C8 hb;replace C9:=rB C9 hb;replace D0:=rB D0 hb;replace Ho:=rB Ho hb;replace Hp:=rB Hp hb;replace Hq:=rB Hq hb;replace Hr:=rB Hr hb;replace Hs:=rB Hs hb;replace Ht:=rB Ht hb;replace Kz:=rB Kz hb;replace Lf:=rB Lf hb;replace Lg:=rB Lg hb;replace Ms:=rB Ms hb;replace My:=rB My hb;replace Mz:=rB Mz hb;replace Ov:=rB Ov hb;replace Ow:=rB Ow hb;replace l9:=kb l9 hb;replace p5:=kb p5 hb;replace V7:=kb V7 hb;replace Z3:=kb Z3 hb;replace Bl:=kb Bl hb;replace Lj:=kb Lj hb;replace Nc:=kb Nc hb;replace HB:=bB hb;clear hb hg;have Pq:=Pd.out;have Pr:=Pc.out;have Ps:=Pf.out;have Pt:=Pe.out;have Pu:=Ph.out;have Pv:=Pg.out;have Pw:=Pj.out;have Px:=Pi.out;have Py:=Pl.out;have Pz:=Pk.out;have Qa:=Pn.out;have Qb:=Pm.out;have Qc:=Pp.out;have Qd:=Po.out;obtain⟨Qe,Qf,Qg,Qh,Qi,Qj⟩:=bk3 Oz;obtain⟨Qk,Ql,rfl⟩:=Kd.R_slice Ov.out;obtain⟨Qm,Qn,rfl⟩:=Kd.R_slice Ow.out;have Qo:=r6.out;have Qp:=r7.out;have Qq:=W0.out;have Qs:=W4.out;have Qt:=Z6.out;have Qu:=Z7.out;have Qv:=Bo.out;have Qw:=Bp.out;obtain⟨Qx,Qy,Qz,Ra,Rb,Rc⟩:=bk3 l9)|(go_at_call 29;(with_reducible refine(Dzp.calls Im e7 _ _ e8 _ _ e9 Jl _ _ Jm _ _ Jn Jr Js Jt Ju _ ?_ ?_ ?_ ?_ ?_ ?_ ?_ ?_ Jw.out).mono ?_);(focus(refine(Kd.R_reads' (e:=3) (base:=w.heap.size) (ok:=fun k_=>(((((((((some k_≠(.slice n6 e9.length n7:Value).ownBlock∧(some k_≠(.slice z7 g4.length z8:Value).ownBlock∧(some k_≠(.slice B0 g5.length B5:Value).ownBlock∧(some k_≠(.slice X7 Q4.length X8:Value).ownBlock∧(some k_≠(.slice X9 Q5.length Y0:Value).ownBlock∧(some k_≠(.slice Ao R3.length Ap:Value).ownBlock∧(some k_≠(.slice Ar R4.length At:Value).ownBlock∧(some k_≠(.slice Cl R9.length Cm:Value).ownBlock∧some k_≠(.slice Cn U0.length Co:Value).ownBlock))))))))∧some k_≠(.slice La Is.length Lb:Value).ownBlock)∧some k_≠(.slice Mm Ix.length Mn:Value).ownBlock)∧some k_≠(.slice Mo Iy.length Mp:Value).ownBlock)∧some k_≠(.slice Mt Jc.length Mu:Value).ownBlock)∧some k_≠(.slice On Jg.length Oo:Value).ownBlock)∧some k_≠(.slice Op Jh.length Oq:Value).ownBlock)∧some k_≠(.slice Qk Jm.length Ql:Value).ownBlock)∧some k_≠(.slice Qm Jn.length Qn:Value).ownBlock)) (n:=e8.length) (c:=n0) ?_).2.2;exact(rT C7 Oz)));exact lR C7;(focus(refine(Kd.R_reads' (e:=3) (base:=w.heap.size) (ok:=fun k_=>(((((((((some k_≠(.slice m9 e8.length n0:Value).ownBlock∧(some k_≠(.slice z7 g4.length z8:Value).ownBlock∧(some k_≠(.slice B0 g5.length B5:Value).ownBlock∧(some k_≠(.slice X7 Q4.length X8:Value).ownBlock∧(some k_≠(.slice X9 Q5.length Y0:Value).ownBlock∧(some k_≠(.slice Ao R3.length Ap:Value).ownBlock∧(some k_≠(.slice Ar R4.length At:Value).ownBlock∧(some k_≠(.slice Cl R9.length Cm:Value).ownBlock∧some k_≠(.slice Cn U0.length Co:Value).ownBlock))))))))∧some k_≠(.slice La Is.length Lb:Value).ownBlock)∧some k_≠(.slice Mm Ix.length Mn:Value).ownBlock)∧some k_≠(.slice Mo Iy.length Mp:Value).ownBlock)∧some k_≠(.slice Mt Jc.length Mu:Value).ownBlock)∧some k_≠(.slice On Jg.length Oo:Value).ownBlock)∧some k_≠(.slice Op Jh.length Oq:Value).ownBlock)∧some k_≠(.slice Qk Jm.length Ql:Value).ownBlock)∧some k_≠(.slice Qm Jn.length Qn:Value).ownBlock)) (n:=e9.length) (c:=n7) ?_).2.2;exact(rT C8 Oz)));exact lR C8;(focus(refine(Kd.R_reads' (e:=3) (base:=w.heap.size) (ok:=fun k_=>((((((((((((((((some k_≠(.slice Qm Jn.length Qn:Value).ownBlock∧some k_≠(.slice m9 e8.length n0:Value).ownBlock)∧some k_≠(.slice n6 e9.length n7:Value).ownBlock)∧some k_≠(.slice z7 g4.length z8:Value).ownBlock)∧some k_≠(.slice B0 g5.length B5:Value).ownBlock)∧some k_≠(.slice X7 Q4.length X8:Value).ownBlock)∧some k_≠(.slice X9 Q5.length Y0:Value).ownBlock)∧some k_≠(.slice Ao R3.length Ap:Value).ownBlock)∧some k_≠(.slice Ar R4.length At:Value).ownBlock)∧some k_≠(.slice Cl R9.length Cm:Value).ownBlock)∧some k_≠(.slice Cn U0.length Co:Value).ownBlock)∧some k_≠(.slice La Is.length Lb:Value).ownBlock)∧some k_≠(.slice Mm Ix.length Mn:Value).ownBlock)∧some k_≠(.slice Mo Iy.length Mp:Value).ownBlock)∧some k_≠(.slice Mt Jc.length Mu:Value).ownBlock)∧some k_≠(.slice On Jg.length Oo:Value).ownBlock)∧some k_≠(.slice Op Jh.length Oq:Value).ownBlock)) (n:=Jm.length) (c:=Ql) ?_).2.2;exact(rT Ov Oz)));exact lR Ov;(focus(refine(Kd.R_reads' (e:=3) (base:=w.heap.size) (ok:=fun k_=>((((((((((((((((some k_≠(.slice Qk Jm.length Ql:Value).ownBlock∧some k_≠(.slice m9 e8.length n0:Value).ownBlock)∧some k_≠(.slice n6 e9.length n7:Value).ownBlock)∧some k_≠(.slice z7 g4.length z8:Value).ownBlock)∧some k_≠(.slice B0 g5.length B5:Value).ownBlock)∧some k_≠(.slice X7 Q4.length X8:Value).ownBlock)∧some k_≠(.slice X9 Q5.length Y0:Value).ownBlock)∧some k_≠(.slice Ao R3.length Ap:Value).ownBlock)∧some k_≠(.slice Ar R4.length At:Value).ownBlock)∧some k_≠(.slice Cl R9.length Cm:Value).ownBlock)∧some k_≠(.slice Cn U0.length Co:Value).ownBlock)∧some k_≠(.slice La Is.length Lb:Value).ownBlock)∧some k_≠(.slice Mm Ix.length Mn:Value).ownBlock)∧some k_≠(.slice Mo Iy.length Mp:Value).ownBlock)∧some k_≠(.slice Mt Jc.length Mu:Value).ownBlock)∧some k_≠(.slice On Jg.length Oo:Value).ownBlock)∧some k_≠(.slice Op Jh.length Oq:Value).ownBlock)) (n:=Jn.length) (c:=Qn) ?_).2.2;exact(rT Ow Oz)));exact lR Ow;rintro e Rd ⟨Re,Rf,rfl,j8,j9,hb⟩;have Rg:=rL (Kd.R_new' (Kd.R_new' (Kd.R_new' (Kd.R_new' (Kd.R_new' (Kd.R_new' (Kd.R_new' (Kd.R_new' (Kd.R_new' (Kd.R_new' (Kd.R_new' (Kd.R_new' (Kd.R_new' (Kd.R_new' (Kd.R_new' (Kd.R_new' (Kd.R_new' (Kd.R_new' j8 (Kd.R_lt (rT C7 Oz))) (Kd.R_lt (rT C8 Oz))) (Kd.R_lt (rT C9 Oz))) (Kd.R_lt (rT D0 Oz))) (Kd.R_lt (rT Ho Oz))) (Kd.R_lt (rT Hp Oz))) (Kd.R_lt (rT Hq Oz))) (Kd.R_lt (rT Hr Oz))) (Kd.R_lt (rT Hs Oz))) (Kd.R_lt (rT Ht Oz))) (Kd.R_lt (rT Kz Oz))) (Kd.R_lt (rT Lf Oz))) (Kd.R_lt (rT Lg Oz))) (Kd.R_lt (rT Ms Oz))) (Kd.R_lt (rT My Oz))) (Kd.R_lt (rT Mz Oz))) (Kd.R_lt (rT Ov Oz))) (Kd.R_lt (rT Ow Oz)));have Rh:=rL (Kd.R_new' (Kd.R_new' (Kd.R_new' (Kd.R_new' (Kd.R_new' (Kd.R_new' (Kd.R_new' (Kd.R_new' (Kd.R_new' (Kd.R_new' (Kd.R_new' (Kd.R_new' (Kd.R_new' (Kd.R_new' (Kd.R_new' (Kd.R_new' (Kd.R_new' (Kd.R_new' j9 (Kd.R_lt (rT C7 Oz))) (Kd.R_lt (rT C8 Oz))) (Kd.R_lt (rT C9 Oz))) (Kd.R_lt (rT D0 Oz))) (Kd.R_lt (rT Ho Oz))) (Kd.R_lt (rT Hp Oz))) (Kd.R_lt (rT Hq Oz))) (Kd.R_lt (rT Hr Oz))) (Kd.R_lt (rT Hs Oz))) (Kd.R_lt (rT Ht Oz))) (Kd.R_lt (rT Kz Oz))) (Kd.R_lt (rT Lf Oz))) (Kd.R_lt (rT Lg Oz))) (Kd.R_lt (rT Ms Oz))) (Kd.R_lt (rT My Oz))) (Kd.R_lt (rT Mz Oz))) (Kd.R_lt (rT Ov Oz))) (Kd.R_lt (rT Ow Oz)));replace C7:=ro (rT C7 Oz) hb j8 j9;replace C8:=ro (rT C8 Oz) hb j8 j9;replace C9:=ro (rT C9 Oz) hb j8 j9;replace D0:=ro (rT D0 Oz) hb j8 j9;replace Ho:=ro (rT Ho Oz) hb j8 j9;replace Hp:=ro (rT Hp Oz) hb j8 j9;replace Hq:=ro (rT Hq Oz) hb j8 j9;replace Hr:=ro (rT Hr Oz) hb j8 j9;replace Hs:=ro (rT Hs Oz) hb j8 j9;replace Ht:=ro (rT Ht Oz) hb j8 j9;replace Kz:=ro (rT Kz Oz) hb j8 j9;replace Lf:=ro (rT Lf Oz) hb j8 j9;replace Lg:=ro (rT Lg Oz) hb j8 j9;replace Ms:=ro (rT Ms Oz) hb j8 j9;replace My:=ro (rT My Oz) hb j8 j9;replace Mz:=ro (rT Mz Oz) hb j8 j9;replace Ov:=ro (rT Ov Oz) hb j8 j9;replace Ow:=ro (rT Ow Oz) hb j8 j9;replace l9:=kF l9 Pc hb;replace p5:=kF p5 Pe hb;replace V7:=kF V7 Pg hb;replace Z3:=kF Z3 Pi hb;replace Bl:=kF Bl Pk hb;replace Lj:=kF Lj Pm hb;replace Nc:=kF Nc Po hb;replace Oz:=kP (o':=.cells #[.bool Jl,.slice Qk Jm.length Ql,.slice Qm Jn.length Qn] 38 (0,0)) Oz hb;replace HB:=bB hb;clear hb j8 j9)|((with_reducible refine gd 28 rfl ?_);refine bxg #[.bool false,.slice none 0 0,.slice none 0 0] 38 ?_;intro Ri hg Rj Rk hb;have Rl:=gA w hg;have Rm:=gA w hg;have Rn:=nl hg l9;have Ro:=ng hg l9;have Rp:=nl hg p5;have Rq:=ng hg p5;have Rs:=nl hg V7;have Rt:=ng hg V7;have Ru:=nl hg Z3;have Rv:=ng hg Z3;have Rw:=nl hg Bl;have Rx:=ng hg Bl;have Ry:=nl hg Lj;have Rz:=ng hg Lj;have Sa:=nl hg Nc;have Sb:=ng hg Nc;have Sc:=nl hg Oz;have Sd:=ng hg Oz;replace C7:=rB C7 hb;replace C8:=rB C8 hb;replace C9:=rB C9 hb;replace D0:=rB D0 hb;replace Ho:=rB Ho hb;replace Hp:=rB Hp hb;replace Hq:=rB Hq hb;replace Hr:=rB Hr hb;replace Hs:=rB Hs hb;replace Ht:=rB Ht hb;replace Kz:=rB Kz hb;replace Lf:=rB Lf hb;replace Lg:=rB Lg hb;replace Ms:=rB Ms hb;replace My:=rB My hb;replace Mz:=rB Mz hb;replace Ov:=rB Ov hb;replace Ow:=rB Ow hb;replace Rg:=rB Rg hb;replace Rh:=rB Rh hb;replace l9:=kb l9 hb;replace p5:=kb p5 hb;replace V7:=kb V7 hb;replace Z3:=kb Z3 hb;replace Bl:=kb Bl hb;replace Lj:=kb Lj hb;replace Nc:=kb Nc hb;replace Oz:=kb Oz hb;replace HB:=bB hb;clear hb hg;have Se:=Ro.out;have Sf:=Rn.out;have Sg:=Rq.out;have Sh:=Rp.out;have Si:=Rt.out;have Sj:=Rs.out;have Sk:=Rv.out;have Sl:=Ru.out;have Sm:=Rx.out;have Sn:=Rw.out;have So:=Rz.out;have Sp:=Ry.out;have Sq:=Sb.out;have Sr:=Sa.out;have Ss:=Sd.out;have St:=Sc.out;obtain⟨Su,Sv,Sw,Sx,Sy,Sz⟩:=bk3 Rk;obtain⟨Ta,Tb,rfl⟩:=Kd.R_slice Rg.out;obtain⟨Tc,Td,rfl⟩:=Kd.R_slice Rh.out;obtain⟨Te,Tf,Tg,Th,Ti,Tj⟩:=bk3 Lj)|(go_at_call 27;(with_reducible refine(Azm.calls Im Iw _ _ Ix _ _ Iy Jr _ _ Js _ _ Jt true _ ?_ ?_ ?_ ?_ ?_ ?_ ?_ ?_ Ko.out).mono ?_);(focus(refine(Kd.R_reads' (e:=3) (base:=w.heap.size) (ok:=fun k_=>((((((((((((((((((some k_≠(.slice Mo Iy.length Mp:Value).ownBlock∧some k_≠(.slice m9 e8.length n0:Value).ownBlock)∧some k_≠(.slice n6 e9.length n7:Value).ownBlock)∧some k_≠(.slice z7 g4.length z8:Value).ownBlock)∧some k_≠(.slice B0 g5.length B5:Value).ownBlock)∧some k_≠(.slice X7 Q4.length X8:Value).ownBlock)∧some k_≠(.slice X9 Q5.length Y0:Value).ownBlock)∧some k_≠(.slice Ao R3.length Ap:Value).ownBlock)∧some k_≠(.slice Ar R4.length At:Value).ownBlock)∧some k_≠(.slice Cl R9.length Cm:Value).ownBlock)∧some k_≠(.slice Cn U0.length Co:Value).ownBlock)∧some k_≠(.slice La Is.length Lb:Value).ownBlock)∧some k_≠(.slice Mt Jc.length Mu:Value).ownBlock)∧some k_≠(.slice On Jg.length Oo:Value).ownBlock)∧some k_≠(.slice Op Jh.length Oq:Value).ownBlock)∧some k_≠(.slice Qk Jm.length Ql:Value).ownBlock)∧some k_≠(.slice Qm Jn.length Qn:Value).ownBlock)∧some k_≠(.slice Ta Js.length Tb:Value).ownBlock)∧some k_≠(.slice Tc Jt.length Td:Value).ownBlock)) (n:=Ix.length) (c:=Mn) ?_).2.2;exact(rT Lf Rk)));exact lR Lf;(focus(refine(Kd.R_reads' (e:=3) (base:=w.heap.size) (ok:=fun k_=>((((((((((((((((((some k_≠(.slice Mm Ix.length Mn:Value).ownBlock∧some k_≠(.slice m9 e8.length n0:Value).ownBlock)∧some k_≠(.slice n6 e9.length n7:Value).ownBlock)∧some k_≠(.slice z7 g4.length z8:Value).ownBlock)∧some k_≠(.slice B0 g5.length B5:Value).ownBlock)∧some k_≠(.slice X7 Q4.length X8:Value).ownBlock)∧some k_≠(.slice X9 Q5.length Y0:Value).ownBlock)∧some k_≠(.slice Ao R3.length Ap:Value).ownBlock)∧some k_≠(.slice Ar R4.length At:Value).ownBlock)∧some k_≠(.slice Cl R9.length Cm:Value).ownBlock)∧some k_≠(.slice Cn U0.length Co:Value).ownBlock)∧some k_≠(.slice La Is.length Lb:Value).ownBlock)∧some k_≠(.slice Mt Jc.length Mu:Value).ownBlock)∧some k_≠(.slice On Jg.length Oo:Value).ownBlock)∧some k_≠(.slice Op Jh.length Oq:Value).ownBlock)∧some k_≠(.slice Qk Jm.length Ql:Value).ownBlock)∧some k_≠(.slice Qm Jn.length Qn:Value).ownBlock)∧some k_≠(.slice Ta Js.length Tb:Value).ownBlock)∧some k_≠(.slice Tc Jt.length Td:Value).ownBlock)) (n:=Iy.length) (c:=Mp) ?_).2.2;exact(rT Lg Rk)));exact lR Lg;(focus(refine(Kd.R_reads' (e:=3) (base:=w.heap.size) (ok:=fun k_=>((((((((((((((((((some k_≠(.slice Tc Jt.length Td:Value).ownBlock∧some k_≠(.slice m9 e8.length n0:Value).ownBlock)∧some k_≠(.slice n6 e9.length n7:Value).ownBlock)∧some k_≠(.slice z7 g4.length z8:Value).ownBlock)∧some k_≠(.slice B0 g5.length B5:Value).ownBlock)∧some k_≠(.slice X7 Q4.length X8:Value).ownBlock)∧some k_≠(.slice X9 Q5.length Y0:Value).ownBlock)∧some k_≠(.slice Ao R3.length Ap:Value).ownBlock)∧some k_≠(.slice Ar R4.length At:Value).ownBlock)∧some k_≠(.slice Cl R9.length Cm:Value).ownBlock)∧some k_≠(.slice Cn U0.length Co:Value).ownBlock)∧some k_≠(.slice La Is.length Lb:Value).ownBlock)∧some k_≠(.slice Mm Ix.length Mn:Value).ownBlock)∧some k_≠(.slice Mo Iy.length Mp:Value).ownBlock)∧some k_≠(.slice Mt Jc.length Mu:Value).ownBlock)∧some k_≠(.slice On Jg.length Oo:Value).ownBlock)∧some k_≠(.slice Op Jh.length Oq:Value).ownBlock)∧some k_≠(.slice Qk Jm.length Ql:Value).ownBlock)∧some k_≠(.slice Qm Jn.length Qn:Value).ownBlock)) (n:=Js.length) (c:=Tb) ?_).2.2;exact(rT Rg Rk)));exact lR Rg;(focus(refine(Kd.R_reads' (e:=3) (base:=w.heap.size) (ok:=fun k_=>((((((((((((((((((some k_≠(.slice Ta Js.length Tb:Value).ownBlock∧some k_≠(.slice m9 e8.length n0:Value).ownBlock)∧some k_≠(.slice n6 e9.length n7:Value).ownBlock)∧some k_≠(.slice z7 g4.length z8:Value).ownBlock)∧some k_≠(.slice B0 g5.length B5:Value).ownBlock)∧some k_≠(.slice X7 Q4.length X8:Value).ownBlock)∧some k_≠(.slice X9 Q5.length Y0:Value).ownBlock)∧some k_≠(.slice Ao R3.length Ap:Value).ownBlock)∧some k_≠(.slice Ar R4.length At:Value).ownBlock)∧some k_≠(.slice Cl R9.length Cm:Value).ownBlock)∧some k_≠(.slice Cn U0.length Co:Value).ownBlock)∧some k_≠(.slice La Is.length Lb:Value).ownBlock)∧some k_≠(.slice Mm Ix.length Mn:Value).ownBlock)∧some k_≠(.slice Mo Iy.length Mp:Value).ownBlock)∧some k_≠(.slice Mt Jc.length Mu:Value).ownBlock)∧some k_≠(.slice On Jg.length Oo:Value).ownBlock)∧some k_≠(.slice Op Jh.length Oq:Value).ownBlock)∧some k_≠(.slice Qk Jm.length Ql:Value).ownBlock)∧some k_≠(.slice Qm Jn.length Qn:Value).ownBlock)) (n:=Jt.length) (c:=Td) ?_).2.2;exact(rT Rh Rk)));exact lR Rh;rintro e Tk ⟨rfl,hb⟩;replace C7:=rb (rT C7 Rk) hb;replace C8:=rb (rT C8 Rk) hb;replace C9:=rb (rT C9 Rk) hb;replace D0:=rb (rT D0 Rk) hb;replace Ho:=rb (rT Ho Rk) hb;replace Hp:=rb (rT Hp Rk) hb;replace Hq:=rb (rT Hq Rk) hb;replace Hr:=rb (rT Hr Rk) hb;replace Hs:=rb (rT Hs Rk) hb;replace Ht:=rb (rT Ht Rk) hb;replace Kz:=rb (rT Kz Rk) hb;replace Lf:=rb (rT Lf Rk) hb;replace Lg:=rb (rT Lg Rk) hb;replace Ms:=rb (rT Ms Rk) hb;replace My:=rb (rT My Rk) hb;replace Mz:=rb (rT Mz Rk) hb;replace Ov:=rb (rT Ov Rk) hb;replace Ow:=rb (rT Ow Rk) hb;replace Rg:=rb (rT Rg Rk) hb;replace Rh:=rb (rT Rh Rk) hb;replace l9:=kF l9 Rn hb;replace p5:=kF p5 Rp hb;replace V7:=kF V7 Rs hb;replace Z3:=kF Z3 Ru hb;replace Bl:=kF Bl Rw hb;replace Lj:=kF Lj Ry hb;replace Nc:=kF Nc Sa hb;replace Oz:=kF Oz Sc hb;replace Rk:=kP (o':=.cells #[.bool Jr,.slice Ta Js.length Tb,.slice Tc Jt.length Td] 38 (0,0)) Rk hb;replace HB:=bB hb;clear hb;obtain⟨Tl,Tm,Tn,To,Tp,Tq⟩:=bk3 Nc;have Tr:=W5.out;have Ts:=W6.out;have Tt:=Z8.out;have Tu:=Z9.out;have Tv:=Bq.out;have Tw:=Br.out;obtain⟨Tx,Ty,Tz,Ua,Ub,Uc⟩:=bk3 p5)|(go_at_call 27;(with_reducible refine(Azm.calls Im Jf _ _ Jg _ _ Jh f9 _ _ g4 _ _ g5 true _ ?_ ?_ ?_ ?_ ?_ ?_ ?_ ?_ Ks.out).mono ?_);exact cR My;exact lR My;exact cR Mz;exact lR Mz;exact cR C9;exact lR C9;exact cR D0;exact lR D0;rintro e Ud ⟨rfl,hb⟩;replace C7:=rB C7 hb;replace C8:=rB C8 hb;replace C9:=rB C9 hb;replace D0:=rB D0 hb;replace Ho:=rB Ho hb;replace Hp:=rB Hp hb;replace Hq:=rB Hq hb;replace Hr:=rB Hr hb;replace Hs:=rB Hs hb;replace Ht:=rB Ht hb;replace Kz:=rB Kz hb;replace Lf:=rB Lf hb;replace Lg:=rB Lg hb;replace Ms:=rB Ms hb;replace My:=rB My hb;replace Mz:=rB Mz hb;replace Ov:=rB Ov hb;replace Ow:=rB Ow hb;replace Rg:=rB Rg hb;replace Rh:=rB Rh hb;replace l9:=kb l9 hb;replace p5:=kb p5 hb;replace V7:=kb V7 hb;replace Z3:=kb Z3 hb;replace Bl:=kb Bl hb;replace Lj:=kb Lj hb;replace Nc:=kb Nc hb;replace Oz:=kb Oz hb;replace Rk:=kb Rk hb;replace HB:=bB hb;clear hb)|(go_at_call 10;(with_reducible refine(Azz.calls Im  Ku _ Kw.out).mono ?_);rintro e Ue ⟨rfl,hb⟩;replace C7:=rB C7 hb;replace C8:=rB C8 hb;replace C9:=rB C9 hb;replace D0:=rB D0 hb;replace Ho:=rB Ho hb;replace Hp:=rB Hp hb;replace Hq:=rB Hq hb;replace Hr:=rB Hr hb;replace Hs:=rB Hs hb;replace Ht:=rB Ht hb;replace Kz:=rB Kz hb;replace Lf:=rB Lf hb;replace Lg:=rB Lg hb;replace Ms:=rB Ms hb;replace My:=rB My hb;replace Mz:=rB Mz hb;replace Ov:=rB Ov hb;replace Ow:=rB Ow hb;replace Rg:=rB Rg hb;replace Rh:=rB Rh hb;replace l9:=kb l9 hb;replace p5:=kb p5 hb;replace V7:=kb V7 hb;replace Z3:=kb Z3 hb;replace Bl:=kb Bl hb;replace Lj:=kb Lj hb;replace Nc:=kb Nc hb;replace Oz:=kb Oz hb;replace Rk:=kb Rk hb;replace HB:=bB hb;clear hb)))
                    go_ret
                    exact⟨eW,pB⟩
                   ·obtain rfl:=bN Kt;rw[if_neg nF] at H
                    exact absurd H (by simp)
                  ·obtain rfl:=bN Kp;rw[if_neg nF] at H
                   exact absurd H (by simp)
     ·rw[if_neg E0] at H;exact absurd H (by simp)

/-- THE ONE PURE STATEMENT of papermilllaw60_StatsMoves: yours. -/
def papermilllaw60_StatsMoves.Pure:Prop:=∀ (l0:List Int) (a1:Int),l0.length≤maxLen→l0.length * 8≤140737488351232→(∀ x ∈ l0,(Lit.int .i64 x).wf=true)→(Lit.int .i64 a1).wf=true→∃ k,papermilllaw60_StatsMoves.f k l0 a1=some true
theorem papermilllaw60_StatsMoves.walk (P:papermilllaw60_StatsMoves.Pure) (a6:Option Addr) (len0 cap0:Nat) (z0:List Int) (a7:Int) (w:World) (a8:(a6=none∧len0=0∧cap0=0∧z0=[])∨∃ x,a6=some x∧len0≤cap0∧cap0≤maxLen∧z0.length=cap0∧(∀ i,i < z0.length→w.cell? (x.add i)=some (.int .i64 (z0.getD i 0)))∧∀ n ∈ z0,(Lit.int .i64 n).wf=true) (b4:len0 * 8≤140737488351232) (b5:(Lit.int .i64 a7).wf=true) :
  Calls Try.prog 9 #[.slice a6 len0 cap0,.int .i64 a7] w fun e w'=>e=.returned (.bool true)∧Below w.heap.size w w':=by
 obtain⟨l0,rfl,b6,b7,b8,b9⟩:=ReadsInt.ofRowC a8;obtain⟨k,h⟩:=P l0 a7 b7 b4 b8 b5;refine(papermilllaw60_StatsMoves.calls k _ _ l0 a7 true w (Kd.C_of_reads (d:=(0:Int)) (h1:=fun _=>rfl) b6) b9 h).mono ?_
 rintro e w' ⟨rfl,hd⟩;exact⟨rfl,hd⟩

end Go.Proofs.Ytokkiljkgejnhaa.Print
