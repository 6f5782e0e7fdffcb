import Derived.Test.YtokkiljkgejnhaaGreatPrint0
import Derived.Test.YtokkiljkgejnhaaGreatPrint10
import Derived.Test.YtokkiljkgejnhaaGreatPrint27
import Derived.Test.YtokkiljkgejnhaaGreatPrint36
namespace Go.Proofs.YtokkiljkgejnhaaGreat.Print
open Go.RowKit Go.Proofs.YtokkiljkgejnhaaGreatW.PrintWords Go.Proofs.YtokkiljkgejnhaaGreatW.PrintLast Go.Proofs.YtokkiljkgejnhaaGreatW.PrintMore
attribute [local go_sem] max2_int min2_int max_two min_two max_three min_three max_four min_four
set_option linter.unusedVariables false
set_option maxRecDepth 100000
set_option maxHeartbeats 8000000
set_option linter.unusedSimpArgs false

def Azv.j0:Nat→Int→Int→List Int→List Int→Int→Int→Bool→Bool→List Int→List Int→Bool→List Int→List Int→Option (Bool)
 | 0,_,_,_,_,_,_,_,_,_,_,_,_,_=>none
 | k+1,x6,x8,x10,x12,x14,x15,x80,x681000,x681001,x681002,x690000,x690001,x690002=>if x80=true then(none) else((Fzj.f k x681000 x681001 x681002 9 2).bind fun t708=>(if t708=true then((Fzj.f k x690000 x690001 x690002 35 4).bind fun t709=>(if t709=true then(if x6=3 then(if x8=5 then((Czw.f k x10 (([1,2,0]:List Int))).bind fun t713=>(if t713=true then((Czw.f k x12 (([12,10,6]:List Int))).bind fun t717=>(if t717=true then(if x14=2 then(some (x15 == 1)) else(none)) else(none))) else(none))) else(none)) else(none)) else(none))) else(none)))
def Azv.f (k:Nat)  : Option (Bool):=(some (([3,9,1,5]:List Int):List Int)).bind fun y669=>((Fzq.f k y669).bind fun bt672=>((Dzw.f k y669).bind fun bt681=>((Bzv.f k y669 500).bind fun bt690=>((Bzv.f k y669 501).bind fun bt692=>((Azm.f k y669 (([0,3,6,9]:List Int))).bind fun bt697=>((Czm.f k y669 2).bind fun bt701=>((Gzw.f k y669 2).bind fun bt705=>(if bt672.2.2.2=0 then(if bt681.2.2.2=0 then(if bt690.2=0 then(if bt692.2=0 then(if bt697.2=0 then(if bt701.2=0 then(Azv.j0 k bt690.1 bt692.1 bt697.1 bt701.1 bt705.1 bt705.2.1 (bt705.2.2 != 0) bt672.1 bt672.2.1 bt672.2.2.1 bt681.1 bt681.2.1 bt681.2.2.1) else(Azv.j0 k bt690.1 bt692.1 bt697.1 bt701.1 bt705.1 bt705.2.1 true bt672.1 bt672.2.1 bt672.2.2.1 bt681.1 bt681.2.1 bt681.2.2.1)) else(Azv.j0 k bt690.1 bt692.1 bt697.1 bt701.1 bt705.1 bt705.2.1 true bt672.1 bt672.2.1 bt672.2.2.1 bt681.1 bt681.2.1 bt681.2.2.1)) else(Azv.j0 k bt690.1 bt692.1 bt697.1 bt701.1 bt705.1 bt705.2.1 true bt672.1 bt672.2.1 bt672.2.2.1 bt681.1 bt681.2.1 bt681.2.2.1)) else(Azv.j0 k bt690.1 bt692.1 bt697.1 bt701.1 bt705.1 bt705.2.1 true bt672.1 bt672.2.1 bt672.2.2.1 bt681.1 bt681.2.1 bt681.2.2.1)) else(Azv.j0 k bt690.1 bt692.1 bt697.1 bt701.1 bt705.1 bt705.2.1 true bt672.1 bt672.2.1 bt672.2.2.1 bt681.1 bt681.2.1 bt681.2.2.1)) else(Azv.j0 k bt690.1 bt692.1 bt697.1 bt701.1 bt705.1 bt705.2.1 true bt672.1 bt672.2.1 bt672.2.2.1 bt681.1 bt681.2.1 bt681.2.2.1)))))))))
theorem Azv.mono_l:∀ k,(∀ a6 a7 a8 b4 b5 b6 b7 b8 b9 d0 d6 d7 d8,LeO (Azv.j0 k a6 a7 a8 b4 b5 b6 b7 b8 b9 d0 d6 d7 d8) (Azv.j0 (k+1) a6 a7 a8 b4 b5 b6 b7 b8 b9 d0 d6 d7 d8))
 | 0=>fun _ _ _ _ _ _ _ _ _ _ _ _ _ r h=>by simp [Azv.j0] at h
 | k+1=>by
  have ih0:=Azv.mono_l k
  ·intro a6 a7 a8 b4 b5 b6 b7 b8 b9 d0 d6 d7 d8;unfold Azv.j0;have i0:=@Fzj.mono;have i1:=@Czw.mono;have i2:=@Azm.mono;have i3:=@Fzq.mono;have i4:=@Czm.mono;have i5:=@Bzv.mono;have i6:=@Gzw.mono;have i7:=@Dzw.mono;exact mM
theorem Azv.mono:∀ k,LeO (Azv.f k ) (Azv.f (k+1) ):=by
 intro  k;have ih0:=Azv.mono_l k;unfold Azv.f;have i0:=@Fzj.mono;have i1:=@Czw.mono;have i2:=@Azm.mono;have i3:=@Fzq.mono;have i4:=@Czm.mono;have i5:=@Bzv.mono;have i6:=@Gzw.mono;have i7:=@Dzw.mono;exact mM
theorem Azv.calls (k:Nat)  (r:Bool) (w:World) (h:Azv.f k  = some r) :
  Calls Tryz.prog 4 #[] w fun e w'=>e=.returned (.bool r)∧Below w.heap.size w w':=by
 have hu26:=Tryz.underlying26;have HB:=aM (Below.refl w.heap.size w);have H:((some (([3,9,1,5]:List Int):List Int)).bind fun a6=>((Fzq.f k a6).bind fun a7=>((Dzw.f k a6).bind fun a8=>((Bzv.f k a6 500).bind fun b4=>((Bzv.f k a6 501).bind fun b5=>((Azm.f k a6 (([0,3,6,9]:List Int))).bind fun b6=>((Czm.f k a6 2).bind fun b7=>((Gzw.f k a6 2).bind fun b8=>(if a7.2.2.2=0 then(if a8.2.2.2=0 then(if b4.2=0 then(if b5.2=0 then(if b6.2=0 then(if b7.2=0 then(Azv.j0 k b4.1 b5.1 b6.1 b7.1 b8.1 b8.2.1 (b8.2.2 != 0) a7.1 a7.2.1 a7.2.2.1 a8.1 a8.2.1 a8.2.2.1) else(Azv.j0 k b4.1 b5.1 b6.1 b7.1 b8.1 b8.2.1 true a7.1 a7.2.1 a7.2.2.1 a8.1 a8.2.1 a8.2.2.1)) else(Azv.j0 k b4.1 b5.1 b6.1 b7.1 b8.1 b8.2.1 true a7.1 a7.2.1 a7.2.2.1 a8.1 a8.2.1 a8.2.2.1)) else(Azv.j0 k b4.1 b5.1 b6.1 b7.1 b8.1 b8.2.1 true a7.1 a7.2.1 a7.2.2.1 a8.1 a8.2.1 a8.2.2.1)) else(Azv.j0 k b4.1 b5.1 b6.1 b7.1 b8.1 b8.2.1 true a7.1 a7.2.1 a7.2.2.1 a8.1 a8.2.1 a8.2.2.1)) else(Azv.j0 k b4.1 b5.1 b6.1 b7.1 b8.1 b8.2.1 true a7.1 a7.2.1 a7.2.2.1 a8.1 a8.2.1 a8.2.2.1)) else(Azv.j0 k b4.1 b5.1 b6.1 b7.1 b8.1 b8.2.1 true a7.1 a7.2.1 a7.2.2.1 a8.1 a8.2.1 a8.2.2.1))))))))))=some r:=h
 clear h;obtain⟨a6,b9⟩:∃ y_:List Int,y_=(([3,9,1,5]:List Int)):=⟨_,rfl⟩;replace H:((Fzq.f k a6).bind fun a7=>((Dzw.f k a6).bind fun a8=>((Bzv.f k a6 500).bind fun b4=>((Bzv.f k a6 501).bind fun b5=>((Azm.f k a6 (([0,3,6,9]:List Int))).bind fun b6=>((Czm.f k a6 2).bind fun b7=>((Gzw.f k a6 2).bind fun b8=>(if a7.2.2.2=0 then(if a8.2.2.2=0 then(if b4.2=0 then(if b5.2=0 then(if b6.2=0 then(if b7.2=0 then(Azv.j0 k b4.1 b5.1 b6.1 b7.1 b8.1 b8.2.1 (b8.2.2 != 0) a7.1 a7.2.1 a7.2.2.1 a8.1 a8.2.1 a8.2.2.1) else(Azv.j0 k b4.1 b5.1 b6.1 b7.1 b8.1 b8.2.1 true a7.1 a7.2.1 a7.2.2.1 a8.1 a8.2.1 a8.2.2.1)) else(Azv.j0 k b4.1 b5.1 b6.1 b7.1 b8.1 b8.2.1 true a7.1 a7.2.1 a7.2.2.1 a8.1 a8.2.1 a8.2.2.1)) else(Azv.j0 k b4.1 b5.1 b6.1 b7.1 b8.1 b8.2.1 true a7.1 a7.2.1 a7.2.2.1 a8.1 a8.2.1 a8.2.2.1)) else(Azv.j0 k b4.1 b5.1 b6.1 b7.1 b8.1 b8.2.1 true a7.1 a7.2.1 a7.2.2.1 a8.1 a8.2.1 a8.2.2.1)) else(Azv.j0 k b4.1 b5.1 b6.1 b7.1 b8.1 b8.2.1 true a7.1 a7.2.1 a7.2.2.1 a8.1 a8.2.1 a8.2.2.1)) else(Azv.j0 k b4.1 b5.1 b6.1 b7.1 b8.1 b8.2.1 true a7.1 a7.2.1 a7.2.2.1 a8.1 a8.2.1 a8.2.2.1)))))))))=some r:=yE b9 H
 have d0:=aM b9;clear b9;obtain⟨⟨d6,d7,d8,d9⟩,e6,H⟩:=bT H;(try dsimp only at H);obtain⟨⟨e7,e8,e9,f3⟩,f4,H⟩:=bT H;(try dsimp only at H);obtain⟨⟨f6,f9⟩,g4,H⟩:=bT H;(try dsimp only at H);obtain⟨⟨g5,g6⟩,g7,H⟩:=bT H;(try dsimp only at H);obtain⟨g8,g9⟩:∃ y_:List Int,y_=(([0,3,6,9]:List Int)):=⟨_,rfl⟩;replace H:((Azm.f k a6 g8).bind fun b6=>((Czm.f k a6 2).bind fun b7=>((Gzw.f k a6 2).bind fun b8=>(if d9=0 then(if f3=0 then(if f9=0 then(if g6=0 then(if b6.2=0 then(if b7.2=0 then(Azv.j0 k f6 g5 b6.1 b7.1 b8.1 b8.2.1 (b8.2.2 != 0) d6 d7 d8 e7 e8 e9) else(Azv.j0 k f6 g5 b6.1 b7.1 b8.1 b8.2.1 true d6 d7 d8 e7 e8 e9)) else(Azv.j0 k f6 g5 b6.1 b7.1 b8.1 b8.2.1 true d6 d7 d8 e7 e8 e9)) else(Azv.j0 k f6 g5 b6.1 b7.1 b8.1 b8.2.1 true d6 d7 d8 e7 e8 e9)) else(Azv.j0 k f6 g5 b6.1 b7.1 b8.1 b8.2.1 true d6 d7 d8 e7 e8 e9)) else(Azv.j0 k f6 g5 b6.1 b7.1 b8.1 b8.2.1 true d6 d7 d8 e7 e8 e9)) else(Azv.j0 k f6 g5 b6.1 b7.1 b8.1 b8.2.1 true d6 d7 d8 e7 e8 e9)))))=some r:=yE g9 H
 have j3:=aM g9;clear g9;obtain⟨⟨j4,j5⟩,j6,H⟩:=bT H;(try dsimp only at H);obtain⟨⟨j7,j8⟩,j9,H⟩:=bT H;(try dsimp only at H);obtain⟨⟨l5,l6,l7⟩,l8,H⟩:=bT H;(try dsimp only at H);have l9:=aM H;clear H;go_enter Tryz.func4,Tryz.ntmps4
 go_upto_region 9 with (first|((with_reducible refine gd 17 rfl ?_);refine iLg 17 [3,9,1,5] ?_;intro m0 m3 m4 hb;replace m4:=rY d0 m4;have m5:=rL m4;replace HB:=bB hb;clear hb m4;obtain⟨m6,m7,rfl⟩:=Kd.R_slice m5.out)|((with_reducible refine gc 5 rfl ?_);refine gC 5 (some 20) Tryz.func5 #[.slice m6 a6.length m7] ?_;(with_reducible refine(Fzq.calls k _ _ a6 d6 d7 d8 d9 _ ?_ ?_ e6.out).mono ?_);exact cR m5;exact lR m5;rintro e m8 ⟨m9,n0,rfl,n6,n7,hb⟩;refine⟨_,rfl,?_⟩;have n8:=rL (rn n6 m5);have n9:=rL (rn n7 m5);replace m5:=rO m5 hb n6 n7;replace HB:=bB hb;clear hb n6 n7)|((with_reducible refine gd 2 rfl ?_);refine bxg #[.bool false,.slice none 0 0,.slice none 0 0] 26 ?_;intro o0 hg o8 o9 hb;have p0:=gA w hg;have p3:=gA w hg;replace m5:=rB m5 hb;replace n8:=rB n8 hb;replace n9:=rB n9 hb;replace HB:=bB hb;clear hb hg;obtain⟨p4,p5,r5,r6,r7,r8⟩:=bk3 o9;obtain⟨r9,t6,rfl⟩:=Kd.R_slice n8.out;obtain⟨t7,t8,rfl⟩:=Kd.R_slice n9.out)|((with_reducible refine gc 7 rfl ?_);refine gC 7 (some 25) Tryz.func7 #[.slice m6 a6.length m7] ?_;(with_reducible refine(Dzw.calls k _ _ a6 e7 e8 e9 f3 _ ?_ ?_ f4.out).mono ?_);(focus(refine(Kd.R_reads' (e:=3) (base:=w.heap.size) (ok:=fun k_=>((True∧some k_≠(.slice r9 d7.length t6:Value).ownBlock)∧some k_≠(.slice t7 d8.length t8:Value).ownBlock)) (n:=a6.length) (c:=m7) ?_).2.2;exact(rT m5 o9)));exact lR m5;rintro e z1 ⟨z2,z6,rfl,n6,n7,hb⟩;refine⟨_,rfl,?_⟩;have z7:=rL (Kd.R_new' (Kd.R_new' (Kd.R_new' n6 (Kd.R_lt (rT m5 o9))) (Kd.R_lt (rT n8 o9))) (Kd.R_lt (rT n9 o9)));have z8:=rL (Kd.R_new' (Kd.R_new' (Kd.R_new' n7 (Kd.R_lt (rT m5 o9))) (Kd.R_lt (rT n8 o9))) (Kd.R_lt (rT n9 o9)));replace m5:=ro (rT m5 o9) hb n6 n7;replace n8:=ro (rT n8 o9) hb n6 n7;replace n9:=ro (rT n9 o9) hb n6 n7;replace o9:=kP (o':=.cells #[.bool d6,.slice r9 d7.length t6,.slice t7 d8.length t8] 26 (0,0)) o9 hb;replace HB:=bB hb;clear hb n6 n7)|((with_reducible refine gd 4 rfl ?_);refine bxg #[.bool false,.slice none 0 0,.slice none 0 0] 26 ?_;intro B0 hg B5 B6 hb;have B8:=gA w hg;have B9:=gA w hg;have C0:=nl hg o9;have C1:=ng hg o9;replace m5:=rB m5 hb;replace n8:=rB n8 hb;replace n9:=rB n9 hb;replace z7:=rB z7 hb;replace z8:=rB z8 hb;replace o9:=kb o9 hb;replace HB:=bB hb;clear hb hg;have C2:=C1.out;have C3:=C0.out;obtain⟨C4,C6,C7,C8,C9,D0⟩:=bk3 B6;obtain⟨D1,D2,rfl⟩:=Kd.R_slice z7.out;obtain⟨D3,D4,rfl⟩:=Kd.R_slice z8.out)|((with_reducible refine gc 12 rfl ?_);refine gC 12 (some 30) Tryz.func12 #[.slice m6 a6.length m7,.int .i64 500] ?_;(with_reducible refine(Bzv.calls k _ _ a6 500 f6 f9 _ ?_ ?_ g4.out).mono ?_);(focus(refine(Kd.R_reads' (e:=3) (base:=w.heap.size) (ok:=fun k_=>((((True∧some k_≠(.slice r9 d7.length t6:Value).ownBlock)∧some k_≠(.slice t7 d8.length t8:Value).ownBlock)∧some k_≠(.slice D1 e8.length D2:Value).ownBlock)∧some k_≠(.slice D3 e9.length D4:Value).ownBlock)) (n:=a6.length) (c:=m7) ?_).2.2;exact(rT m5 B6)));exact lR m5;rintro e D5 ⟨rfl,hb⟩;refine⟨_,rfl,?_⟩;replace m5:=rb (rT m5 B6) hb;replace n8:=rb (rT n8 B6) hb;replace n9:=rb (rT n9 B6) hb;replace z7:=rb (rT z7 B6) hb;replace z8:=rb (rT z8 B6) hb;replace o9:=kF o9 C0 hb;replace B6:=kP (o':=.cells #[.bool e7,.slice D1 e8.length D2,.slice D3 e9.length D4] 26 (0,0)) B6 hb;replace HB:=bB hb;clear hb)|((with_reducible refine gc 12 rfl ?_);refine gC 12 (some 35) Tryz.func12 #[.slice m6 a6.length m7,.int .i64 501] ?_;(with_reducible refine(Bzv.calls k _ _ a6 501 g5 g6 _ ?_ ?_ g7.out).mono ?_);exact cR m5;exact lR m5;rintro e D6 ⟨rfl,hb⟩;refine⟨_,rfl,?_⟩;replace m5:=rB m5 hb;replace n8:=rB n8 hb;replace n9:=rB n9 hb;replace z7:=rB z7 hb;replace z8:=rB z8 hb;replace o9:=kb o9 hb;replace B6:=kb B6 hb;replace HB:=bB hb;clear hb)|((with_reducible refine gd 40 rfl ?_);refine iLg 40 [0,3,6,9] ?_;intro D7 D8 D9 hb;replace D9:=rY j3 D9;have E0:=rL (rn (rn (rn (rn (rn D9 m5) n8) n9) z7) z8);replace m5:=rE m5 D9 hb;replace n8:=rE n8 D9 hb;replace n9:=rE n9 D9 hb;replace z7:=rE z7 D9 hb;replace z8:=rE z8 D9 hb;replace o9:=kb o9 hb;replace B6:=kb B6 hb;replace HB:=bB hb;clear hb D9;obtain⟨E1,E2,rfl⟩:=Kd.R_slice E0.out)|((with_reducible refine gc 13 rfl ?_);refine gC 13 (some 41) Tryz.func13 #[.slice m6 a6.length m7,.slice E1 g8.length E2] ?_;(with_reducible refine(Azm.calls k _ _ a6 _ _ g8 j4 j5 _ ?_ ?_ ?_ ?_ j6.out).mono ?_);exact cR m5;exact lR m5;exact cR E0;exact lR E0;rintro e E3 ⟨E4,rfl,n6,hb⟩;refine⟨_,rfl,?_⟩;have E5:=rL (rn (rn (rn (rn (rn (rn n6 m5) n8) n9) z7) z8) E0);replace m5:=rE m5 n6 hb;replace n8:=rE n8 n6 hb;replace n9:=rE n9 n6 hb;replace z7:=rE z7 n6 hb;replace z8:=rE z8 n6 hb;replace E0:=rE E0 n6 hb;replace o9:=kb o9 hb;replace B6:=kb B6 hb;replace HB:=bB hb;clear hb n6)|((with_reducible refine gc 14 rfl ?_);refine gC 14 (some 46) Tryz.func14 #[.slice m6 a6.length m7,.int .i64 2] ?_;(with_reducible refine(Czm.calls k _ _ a6 2 j7 j8 _ ?_ ?_ j9.out).mono ?_);exact cR m5;exact lR m5;rintro e E6 ⟨E7,rfl,n6,hb⟩;refine⟨_,rfl,?_⟩;have E8:=rL (rn (rn (rn (rn (rn (rn (rn n6 m5) n8) n9) z7) z8) E0) E5);replace m5:=rE m5 n6 hb;replace n8:=rE n8 n6 hb;replace n9:=rE n9 n6 hb;replace z7:=rE z7 n6 hb;replace z8:=rE z8 n6 hb;replace E0:=rE E0 n6 hb;replace E5:=rE E5 n6 hb;replace o9:=kb o9 hb;replace B6:=kb B6 hb;replace HB:=bB hb;clear hb n6)|((with_reducible refine gc 15 rfl ?_);refine gC 15 (some 51) Tryz.func15 #[.slice m6 a6.length m7,.int .i64 2] ?_;(with_reducible refine(Gzw.calls k _ _ a6 2 l5 l6 l7 _ ?_ ?_ l8.out).mono ?_);exact cR m5;exact lR m5;rintro e E9 ⟨rfl,hb⟩;refine⟨_,rfl,?_⟩;replace m5:=rB m5 hb;replace n8:=rB n8 hb;replace n9:=rB n9 hb;replace z7:=rB z7 hb;replace z8:=rB z8 hb;replace E0:=rB E0 hb;replace E5:=rB E5 hb;replace E8:=rB E8 hb;replace o9:=kb o9 hb;replace B6:=kb B6 hb;replace HB:=bB hb;clear hb))
 (try simp only[Act.put,sA,sZ,sC])
 go_cut [80] (fun F0 wc=>∃ (kq:Nat) (F1:Bool),F0=.bool F1∧Aside0 (Azv.j0 kq f6 g5 j4 j7 l5 l6 F1 d6 d7 d8 e7 e8 e9=some r)∧Aside0 (kq≤k)∧Aside0 (Kd.R (Kd.int .i64) 3 wc w.heap.size (fun k_=>some k_≠(E7:Value).ownBlock∧some k_≠((.slice r9 d7.length t6):Value).ownBlock∧some k_≠((.slice t7 d8.length t8):Value).ownBlock∧some k_≠((.slice D1 e8.length D2):Value).ownBlock∧some k_≠((.slice D3 e9.length D4):Value).ownBlock) E4 j4)∧Aside0 (Kd.R (Kd.int .i64) 3 wc w.heap.size (fun k_=>some k_≠(E4:Value).ownBlock∧some k_≠((.slice r9 d7.length t6):Value).ownBlock∧some k_≠((.slice t7 d8.length t8):Value).ownBlock∧some k_≠((.slice D1 e8.length D2):Value).ownBlock∧some k_≠((.slice D3 e9.length D4):Value).ownBlock) E7 j7)∧Aside0 (Kd.R (Kd.int .i64) 3 wc w.heap.size (fun k_=>some k_≠(E4:Value).ownBlock∧some k_≠(E7:Value).ownBlock∧some k_≠((.slice t7 d8.length t8):Value).ownBlock∧some k_≠((.slice D1 e8.length D2):Value).ownBlock∧some k_≠((.slice D3 e9.length D4):Value).ownBlock) (.slice r9 d7.length t6) d7)∧Aside0 (Kd.R (Kd.int .i64) 3 wc w.heap.size (fun k_=>some k_≠(E4:Value).ownBlock∧some k_≠(E7:Value).ownBlock∧some k_≠((.slice r9 d7.length t6):Value).ownBlock∧some k_≠((.slice D1 e8.length D2):Value).ownBlock∧some k_≠((.slice D3 e9.length D4):Value).ownBlock) (.slice t7 d8.length t8) d8)∧Aside0 (Kd.R (Kd.int .i64) 3 wc w.heap.size (fun k_=>some k_≠(E4:Value).ownBlock∧some k_≠(E7:Value).ownBlock∧some k_≠((.slice r9 d7.length t6):Value).ownBlock∧some k_≠((.slice t7 d8.length t8):Value).ownBlock∧some k_≠((.slice D3 e9.length D4):Value).ownBlock) (.slice D1 e8.length D2) e8)∧Aside0 (Kd.R (Kd.int .i64) 3 wc w.heap.size (fun k_=>some k_≠(E4:Value).ownBlock∧some k_≠(E7:Value).ownBlock∧some k_≠((.slice r9 d7.length t6):Value).ownBlock∧some k_≠((.slice t7 d8.length t8):Value).ownBlock∧some k_≠((.slice D1 e8.length D2):Value).ownBlock) (.slice D3 e9.length D4) e9)∧Aside0 (wc.heap[o0]?=some (.cells #[.bool d6,(.slice r9 d7.length t6),(.slice t7 d8.length t8)] 26 (0,0)))∧Aside0 (wc.heap[B0]?=some (.cells #[.bool e7,(.slice D1 e8.length D2),(.slice D3 e9.length D4)] 26 (0,0)))∧Aside0 (Below w.heap.size w wc))
 case first =>
  have H:=l9.out;clear l9;by_cases F2:d9=0
  ·rw[if_pos F2] at H;obtain⟨F3,F4⟩:=bE F2;clear F2;(first|rw[F3]|(simp only[i64_w,i32_w];rw[F3])|skip)
   by_cases F5:f3=0
   ·rw[if_pos F5] at H;obtain⟨F6,F7⟩:=bE F5;clear F5;by_cases F8:f9=0
    ·rw[if_pos F8] at H;obtain⟨F9,G0⟩:=bE F8;clear F8;by_cases G4:g6=0
     ·rw[if_pos G4] at H;obtain⟨G5,G6⟩:=bE G4;clear G4;by_cases G7:j5=0
      ·rw[if_pos G7] at H;obtain⟨G8,G9⟩:=bE G7;clear G7;by_cases H5:j8=0
       ·rw[if_pos H5] at H;obtain⟨H6,H7⟩:=bE H5;clear H5;have H':=aM H;clear H;go_wp2
        go_meet
        case rel=>exact⟨_,((l7 != 0)),sD,H',⟨by first|omega|exact Nat.le_refl _⟩,⟨by exact rX (Kd.R_mono E5.out (fun _ hk=>⟨hk.2,⟨hk.1.1.1.1.1.2,⟨hk.1.1.1.1.2,⟨hk.1.1.1.2,hk.1.1.2⟩⟩⟩⟩))⟩,⟨by exact rX (Kd.R_mono E8.out (fun _ hk=>⟨hk.2,⟨hk.1.1.1.1.1.2,⟨hk.1.1.1.1.2,⟨hk.1.1.1.2,hk.1.1.2⟩⟩⟩⟩))⟩,⟨by exact rX (Kd.R_mono n8.out (fun _ hk=>⟨hk.1.2,⟨hk.2,⟨hk.1.1.1.1.1.1,⟨hk.1.1.1.1.2,hk.1.1.1.2⟩⟩⟩⟩))⟩,⟨by exact rX (Kd.R_mono n9.out (fun _ hk=>⟨hk.1.2,⟨hk.2,⟨hk.1.1.1.1.1.1,⟨hk.1.1.1.1.2,hk.1.1.1.2⟩⟩⟩⟩))⟩,⟨by exact rX (Kd.R_mono z7.out (fun _ hk=>⟨hk.1.2,⟨hk.2,⟨hk.1.1.1.1.2,⟨hk.1.1.1.2,hk.1.1.1.1.1.1⟩⟩⟩⟩))⟩,⟨by exact rX (Kd.R_mono z8.out (fun _ hk=>⟨hk.1.2,⟨hk.2,⟨hk.1.1.1.1.2,⟨hk.1.1.1.2,hk.1.1.1.1.1.1⟩⟩⟩⟩))⟩,⟨by exact kW o9⟩,⟨by exact kW B6⟩,⟨pB⟩⟩
       ·rw[if_neg H5] at H;obtain⟨H6,H7⟩:=bI H5;have H':=aM H;clear H;go_wp2
        go_meet
        case rel=>exact⟨_,(true),sD,H',⟨by first|omega|exact Nat.le_refl _⟩,⟨by exact rX (Kd.R_mono E5.out (fun _ hk=>⟨hk.2,⟨hk.1.1.1.1.1.2,⟨hk.1.1.1.1.2,⟨hk.1.1.1.2,hk.1.1.2⟩⟩⟩⟩))⟩,⟨by exact rX (Kd.R_mono E8.out (fun _ hk=>⟨hk.2,⟨hk.1.1.1.1.1.2,⟨hk.1.1.1.1.2,⟨hk.1.1.1.2,hk.1.1.2⟩⟩⟩⟩))⟩,⟨by exact rX (Kd.R_mono n8.out (fun _ hk=>⟨hk.1.2,⟨hk.2,⟨hk.1.1.1.1.1.1,⟨hk.1.1.1.1.2,hk.1.1.1.2⟩⟩⟩⟩))⟩,⟨by exact rX (Kd.R_mono n9.out (fun _ hk=>⟨hk.1.2,⟨hk.2,⟨hk.1.1.1.1.1.1,⟨hk.1.1.1.1.2,hk.1.1.1.2⟩⟩⟩⟩))⟩,⟨by exact rX (Kd.R_mono z7.out (fun _ hk=>⟨hk.1.2,⟨hk.2,⟨hk.1.1.1.1.2,⟨hk.1.1.1.2,hk.1.1.1.1.1.1⟩⟩⟩⟩))⟩,⟨by exact rX (Kd.R_mono z8.out (fun _ hk=>⟨hk.1.2,⟨hk.2,⟨hk.1.1.1.1.2,⟨hk.1.1.1.2,hk.1.1.1.1.1.1⟩⟩⟩⟩))⟩,⟨by exact kW o9⟩,⟨by exact kW B6⟩,⟨pB⟩⟩
      ·rw[if_neg G7] at H;obtain⟨G8,G9⟩:=bI G7;have H':=aM H;clear H;go_wp2
       go_meet
       case rel=>exact⟨_,(true),sD,H',⟨by first|omega|exact Nat.le_refl _⟩,⟨by exact rX (Kd.R_mono E5.out (fun _ hk=>⟨hk.2,⟨hk.1.1.1.1.1.2,⟨hk.1.1.1.1.2,⟨hk.1.1.1.2,hk.1.1.2⟩⟩⟩⟩))⟩,⟨by exact rX (Kd.R_mono E8.out (fun _ hk=>⟨hk.2,⟨hk.1.1.1.1.1.2,⟨hk.1.1.1.1.2,⟨hk.1.1.1.2,hk.1.1.2⟩⟩⟩⟩))⟩,⟨by exact rX (Kd.R_mono n8.out (fun _ hk=>⟨hk.1.2,⟨hk.2,⟨hk.1.1.1.1.1.1,⟨hk.1.1.1.1.2,hk.1.1.1.2⟩⟩⟩⟩))⟩,⟨by exact rX (Kd.R_mono n9.out (fun _ hk=>⟨hk.1.2,⟨hk.2,⟨hk.1.1.1.1.1.1,⟨hk.1.1.1.1.2,hk.1.1.1.2⟩⟩⟩⟩))⟩,⟨by exact rX (Kd.R_mono z7.out (fun _ hk=>⟨hk.1.2,⟨hk.2,⟨hk.1.1.1.1.2,⟨hk.1.1.1.2,hk.1.1.1.1.1.1⟩⟩⟩⟩))⟩,⟨by exact rX (Kd.R_mono z8.out (fun _ hk=>⟨hk.1.2,⟨hk.2,⟨hk.1.1.1.1.2,⟨hk.1.1.1.2,hk.1.1.1.1.1.1⟩⟩⟩⟩))⟩,⟨by exact kW o9⟩,⟨by exact kW B6⟩,⟨pB⟩⟩
     ·rw[if_neg G4] at H;obtain⟨G5,G6⟩:=bI G4;have H':=aM H;clear H;go_wp2
      go_meet
      case rel=>exact⟨_,(true),sD,H',⟨by first|omega|exact Nat.le_refl _⟩,⟨by exact rX (Kd.R_mono E5.out (fun _ hk=>⟨hk.2,⟨hk.1.1.1.1.1.2,⟨hk.1.1.1.1.2,⟨hk.1.1.1.2,hk.1.1.2⟩⟩⟩⟩))⟩,⟨by exact rX (Kd.R_mono E8.out (fun _ hk=>⟨hk.2,⟨hk.1.1.1.1.1.2,⟨hk.1.1.1.1.2,⟨hk.1.1.1.2,hk.1.1.2⟩⟩⟩⟩))⟩,⟨by exact rX (Kd.R_mono n8.out (fun _ hk=>⟨hk.1.2,⟨hk.2,⟨hk.1.1.1.1.1.1,⟨hk.1.1.1.1.2,hk.1.1.1.2⟩⟩⟩⟩))⟩,⟨by exact rX (Kd.R_mono n9.out (fun _ hk=>⟨hk.1.2,⟨hk.2,⟨hk.1.1.1.1.1.1,⟨hk.1.1.1.1.2,hk.1.1.1.2⟩⟩⟩⟩))⟩,⟨by exact rX (Kd.R_mono z7.out (fun _ hk=>⟨hk.1.2,⟨hk.2,⟨hk.1.1.1.1.2,⟨hk.1.1.1.2,hk.1.1.1.1.1.1⟩⟩⟩⟩))⟩,⟨by exact rX (Kd.R_mono z8.out (fun _ hk=>⟨hk.1.2,⟨hk.2,⟨hk.1.1.1.1.2,⟨hk.1.1.1.2,hk.1.1.1.1.1.1⟩⟩⟩⟩))⟩,⟨by exact kW o9⟩,⟨by exact kW B6⟩,⟨pB⟩⟩
    ·rw[if_neg F8] at H;obtain⟨F9,G0⟩:=bI F8;have H':=aM H;clear H;go_wp2
     go_meet
     case rel=>exact⟨_,(true),sD,H',⟨by first|omega|exact Nat.le_refl _⟩,⟨by exact rX (Kd.R_mono E5.out (fun _ hk=>⟨hk.2,⟨hk.1.1.1.1.1.2,⟨hk.1.1.1.1.2,⟨hk.1.1.1.2,hk.1.1.2⟩⟩⟩⟩))⟩,⟨by exact rX (Kd.R_mono E8.out (fun _ hk=>⟨hk.2,⟨hk.1.1.1.1.1.2,⟨hk.1.1.1.1.2,⟨hk.1.1.1.2,hk.1.1.2⟩⟩⟩⟩))⟩,⟨by exact rX (Kd.R_mono n8.out (fun _ hk=>⟨hk.1.2,⟨hk.2,⟨hk.1.1.1.1.1.1,⟨hk.1.1.1.1.2,hk.1.1.1.2⟩⟩⟩⟩))⟩,⟨by exact rX (Kd.R_mono n9.out (fun _ hk=>⟨hk.1.2,⟨hk.2,⟨hk.1.1.1.1.1.1,⟨hk.1.1.1.1.2,hk.1.1.1.2⟩⟩⟩⟩))⟩,⟨by exact rX (Kd.R_mono z7.out (fun _ hk=>⟨hk.1.2,⟨hk.2,⟨hk.1.1.1.1.2,⟨hk.1.1.1.2,hk.1.1.1.1.1.1⟩⟩⟩⟩))⟩,⟨by exact rX (Kd.R_mono z8.out (fun _ hk=>⟨hk.1.2,⟨hk.2,⟨hk.1.1.1.1.2,⟨hk.1.1.1.2,hk.1.1.1.1.1.1⟩⟩⟩⟩))⟩,⟨by exact kW o9⟩,⟨by exact kW B6⟩,⟨pB⟩⟩
   ·rw[if_neg F5] at H;obtain⟨F6,F7⟩:=bI F5;have H':=aM H;clear H;go_wp2
    go_meet
    case rel=>exact⟨_,(true),sD,H',⟨by first|omega|exact Nat.le_refl _⟩,⟨by exact rX (Kd.R_mono E5.out (fun _ hk=>⟨hk.2,⟨hk.1.1.1.1.1.2,⟨hk.1.1.1.1.2,⟨hk.1.1.1.2,hk.1.1.2⟩⟩⟩⟩))⟩,⟨by exact rX (Kd.R_mono E8.out (fun _ hk=>⟨hk.2,⟨hk.1.1.1.1.1.2,⟨hk.1.1.1.1.2,⟨hk.1.1.1.2,hk.1.1.2⟩⟩⟩⟩))⟩,⟨by exact rX (Kd.R_mono n8.out (fun _ hk=>⟨hk.1.2,⟨hk.2,⟨hk.1.1.1.1.1.1,⟨hk.1.1.1.1.2,hk.1.1.1.2⟩⟩⟩⟩))⟩,⟨by exact rX (Kd.R_mono n9.out (fun _ hk=>⟨hk.1.2,⟨hk.2,⟨hk.1.1.1.1.1.1,⟨hk.1.1.1.1.2,hk.1.1.1.2⟩⟩⟩⟩))⟩,⟨by exact rX (Kd.R_mono z7.out (fun _ hk=>⟨hk.1.2,⟨hk.2,⟨hk.1.1.1.1.2,⟨hk.1.1.1.2,hk.1.1.1.1.1.1⟩⟩⟩⟩))⟩,⟨by exact rX (Kd.R_mono z8.out (fun _ hk=>⟨hk.1.2,⟨hk.2,⟨hk.1.1.1.1.2,⟨hk.1.1.1.2,hk.1.1.1.1.1.1⟩⟩⟩⟩))⟩,⟨by exact kW o9⟩,⟨by exact kW B6⟩,⟨pB⟩⟩
  ·rw[if_neg F2] at H;obtain⟨F3,F4⟩:=bI F2;(first|rw[F3]|(simp only[i64_w,i32_w];rw[F3])|skip)
   have H':=aM H;clear H;go_wp2
   go_meet
   case rel=>exact⟨_,(true),sD,H',⟨by first|omega|exact Nat.le_refl _⟩,⟨by exact rX (Kd.R_mono E5.out (fun _ hk=>⟨hk.2,⟨hk.1.1.1.1.1.2,⟨hk.1.1.1.1.2,⟨hk.1.1.1.2,hk.1.1.2⟩⟩⟩⟩))⟩,⟨by exact rX (Kd.R_mono E8.out (fun _ hk=>⟨hk.2,⟨hk.1.1.1.1.1.2,⟨hk.1.1.1.1.2,⟨hk.1.1.1.2,hk.1.1.2⟩⟩⟩⟩))⟩,⟨by exact rX (Kd.R_mono n8.out (fun _ hk=>⟨hk.1.2,⟨hk.2,⟨hk.1.1.1.1.1.1,⟨hk.1.1.1.1.2,hk.1.1.1.2⟩⟩⟩⟩))⟩,⟨by exact rX (Kd.R_mono n9.out (fun _ hk=>⟨hk.1.2,⟨hk.2,⟨hk.1.1.1.1.1.1,⟨hk.1.1.1.1.2,hk.1.1.1.2⟩⟩⟩⟩))⟩,⟨by exact rX (Kd.R_mono z7.out (fun _ hk=>⟨hk.1.2,⟨hk.2,⟨hk.1.1.1.1.2,⟨hk.1.1.1.2,hk.1.1.1.1.1.1⟩⟩⟩⟩))⟩,⟨by exact rX (Kd.R_mono z8.out (fun _ hk=>⟨hk.1.2,⟨hk.2,⟨hk.1.1.1.1.2,⟨hk.1.1.1.2,hk.1.1.1.1.1.1⟩⟩⟩⟩))⟩,⟨by exact kW o9⟩,⟨by exact kW B6⟩,⟨pB⟩⟩
 case rest =>
  clear l9;try clear H8
  obtain⟨kq,F1,rfl,HA,H9,I0,I1,I2,I3,I4,I5,o9,B6,HB⟩:=hcut;cases kq with
  | zero=>exact absurd HA.out (by simp [Azv.j0])
  | succ I6 =>
   have H:=HA.out;clear HA;simp only[Azv.j0] at H;by_cases I7:F1=true
   ·subst I7;rw[if_pos rfl] at H;exact absurd H (by simp)
   ·obtain rfl:=bN I7;rw[if_neg nF] at H
    obtain⟨I8,I9,H⟩:=bT H;(try dsimp only at H);by_cases J0:I8=true
    ·subst J0;rw[if_pos rfl] at H;obtain⟨J1,J2,H⟩:=bT H;(try dsimp only at H);by_cases J3:J1=true
     ·subst J3;rw[if_pos rfl] at H;obtain⟨J4,H⟩:=iO H;have J5:(f6 == 3)=true:=beq_iff_eq.mpr J4;have J6:(f6 != 3)=false:=bne_eq_false_iff_eq.mpr J4;clear J4;obtain⟨J7,H⟩:=iO H;have J8:(g5 == 5)=true:=beq_iff_eq.mpr J7;have J9:(g5 != 5)=false:=bne_eq_false_iff_eq.mpr J7;clear J7;obtain⟨K0,K1⟩:∃ y_:List Int,y_=(([1,2,0]:List Int)):=⟨_,rfl⟩;replace H:((Czw.f I6 j4 K0).bind fun K2=>(if K2=true then((Czw.f I6 j7 (([12,10,6]:List Int))).bind fun K3=>(if K3=true then(if l5=2 then(some (l6 == 1)) else(none)) else(none))) else(none)))=some r:=yE K1 H
      have K4:=aM K1;clear K1;obtain⟨K2,K5,H⟩:=bT H;(try dsimp only at H);by_cases K6:K2=true
      ·subst K6;rw[if_pos rfl] at H;obtain⟨K7,K8⟩:∃ y_:List Int,y_=(([12,10,6]:List Int)):=⟨_,rfl⟩;replace H:((Czw.f I6 j7 K7).bind fun K3=>(if K3=true then(if l5=2 then(some (l6 == 1)) else(none)) else(none)))=some r:=yE K8 H
       have K9:=aM K8;clear K8;obtain⟨K3,L0,H⟩:=bT H;(try dsimp only at H);by_cases L5:K3=true
       ·subst L5;rw[if_pos rfl] at H;obtain⟨L6,H⟩:=iO H;have L7:(l5 == 2)=true:=beq_iff_eq.mpr L6;have L8:(l5 != 2)=false:=bne_eq_false_iff_eq.mpr L6;clear L6;obtain rfl:=Option.some.inj H;have L9:=C0.out;have M0:=C1.out;obtain⟨M1,M2,M3,M4,M5,M6⟩:=bk3 o9;go_wp2_with (first|((with_reducible refine gc 16 rfl ?_);refine gC 16 (some 82) Tryz.func16 #[.agg #[.bool d6,.slice r9 d7.length t6,.slice t7 d8.length t8],.int .i64 9,.int .i64 2] ?_;(with_reducible refine(Fzj.calls I6 d6 _ _ d7 _ _ d8 9 2 true _ ?_ ?_ ?_ ?_ I9.out).mono ?_);exact cR I2;exact lR I2;exact cR I3;exact lR I3;rintro e M7 ⟨rfl,hb⟩;refine⟨_,rfl,?_⟩;replace I0:=rB I0 hb;replace I1:=rB I1 hb;replace I2:=rB I2 hb;replace I3:=rB I3 hb;replace I4:=rB I4 hb;replace I5:=rB I5 hb;replace o9:=kb o9 hb;replace B6:=kb B6 hb;replace HB:=bB hb;clear hb;obtain⟨M8,M9,N0,N1,N2,N3⟩:=bk3 B6)|(go_at_call 16;(with_reducible refine(Fzj.calls I6 e7 _ _ e8 _ _ e9 35 4 true _ ?_ ?_ ?_ ?_ J2.out).mono ?_);exact cR I4;exact lR I4;exact cR I5;exact lR I5;rintro e N4 ⟨rfl,hb⟩;replace I0:=rB I0 hb;replace I1:=rB I1 hb;replace I2:=rB I2 hb;replace I3:=rB I3 hb;replace I4:=rB I4 hb;replace I5:=rB I5 hb;replace o9:=kb o9 hb;replace B6:=kb B6 hb;replace HB:=bB hb;clear hb)|((with_reducible refine gd 97 rfl ?_);refine iLg 97 [1,2,0] ?_;intro N5 N6 N7 hb;replace N7:=rY K4 N7;have N8:=rL (rn (rn (rn (rn (rn (rn N7 I0) I1) I2) I3) I4) I5);replace I0:=rE I0 N7 hb;replace I1:=rE I1 N7 hb;replace I2:=rE I2 N7 hb;replace I3:=rE I3 N7 hb;replace I4:=rE I4 N7 hb;replace I5:=rE I5 N7 hb;replace o9:=kb o9 hb;replace B6:=kb B6 hb;replace HB:=bB hb;clear hb N7;obtain⟨N9,O0,rfl⟩:=Kd.R_slice I0.out;obtain⟨O1,O2,rfl⟩:=Kd.R_slice N8.out)|(go_at_call 17;(with_reducible refine(Czw.calls I6 _ _ j4 _ _ K0 true _ ?_ ?_ ?_ ?_ K5.out).mono ?_);exact cR I0;exact lR I0;exact cR N8;exact lR N8;rintro e w' ⟨rfl,⟨nd,rfl⟩⟩)|((with_reducible refine gd 102 rfl ?_);refine iLg 102 [12,10,6] ?_;intro O3 O4 O5 hb;replace O5:=rY K9 O5;have O6:=rL (rn (rn (rn (rn (rn (rn (rn O5 I0) I1) I2) I3) I4) I5) N8);replace I0:=rE I0 O5 hb;replace I1:=rE I1 O5 hb;replace I2:=rE I2 O5 hb;replace I3:=rE I3 O5 hb;replace I4:=rE I4 O5 hb;replace I5:=rE I5 O5 hb;replace N8:=rE N8 O5 hb;replace o9:=kb o9 hb;replace B6:=kb B6 hb;replace HB:=bB hb;clear hb O5;obtain⟨O7,O8,rfl⟩:=Kd.R_slice I1.out;obtain⟨O9,P2,rfl⟩:=Kd.R_slice O6.out)|(go_at_call 17;(with_reducible refine(Czw.calls I6 _ _ j7 _ _ K7 true _ ?_ ?_ ?_ ?_ L0.out).mono ?_);exact cR I1;exact lR I1;exact cR O6;exact lR O6;rintro e w' ⟨rfl,⟨nd,rfl⟩⟩))
        go_ret
        exact⟨eW,pB⟩
       ·obtain rfl:=bN L5;rw[if_neg nF] at H
        exact absurd H (by simp)
      ·obtain rfl:=bN K6;rw[if_neg nF] at H
       exact absurd H (by simp)
     ·obtain rfl:=bN J3;rw[if_neg nF] at H
      exact absurd H (by simp)
    ·obtain rfl:=bN J0;rw[if_neg nF] at H
     exact absurd H (by simp)


def Bzx.l0:Nat→List Int→Int→Option (Int)
 | 0,_,_=>none
 | k+1,x0,x3=>if x3 < (x0.length:Int) then(if 0≤x3 then(if(rd x0 x3) < (-1099511627776) then(some 1) else(if(rd x0 x3) > 1099511627776 then(some 1) else(Bzx.l0 k x0 (wrap64 (x3+1))))) else(none)) else(some 0)
def Bzx.f (k:Nat) (l0:List Int):Option (Int):=if(l0.length:Int)=0 then(some 10) else(if(l0.length:Int) > 512 then(some 8) else(Bzx.l0 k l0 0))
theorem Bzx.mono_l:∀ k,(∀ a6 a7,LeO (Bzx.l0 k a6 a7) (Bzx.l0 (k+1) a6 a7))
 | 0=>fun _ _ r h=>by simp [Bzx.l0] at h
 | k+1=>by
  have ih0:=Bzx.mono_l k
  ·intro a6 a7;unfold Bzx.l0;exact mM
theorem Bzx.mono:∀ a6 k,LeO (Bzx.f k a6) (Bzx.f (k+1) a6):=by
 intro a6 k;have ih0:=Bzx.mono_l k;unfold Bzx.f;exact mM
theorem Bzx.calls (k:Nat) (a6:Option Addr) (a7:Nat) (l0:List Int) (r:Int) (w:World) (a8:Kd.C (Kd.int .i64) w a6 l0.length l0) (b4:l0.length≤a7) (h:Bzx.f k l0=some r) :
  Calls Tryz.prog 10 #[.slice a6 l0.length a7] w fun e w'=>e=.returned (.int .i64 r)∧Drawn0 w w':=by
 have b5:=aM a8;have b6:=aM b4;clear a8 b4;have H:(if(l0.length:Int)=0 then(some 10) else(if(l0.length:Int) > 512 then(some 8) else(Bzx.l0 k l0 0)))=some r:=h
 clear h;by_cases c2:(l0.length:Int)=0
 ·rw[if_pos c2] at H;obtain⟨b7,b8⟩:=bE c2;clear c2;obtain rfl:=Option.some.inj H;go_enter Tryz.func10,Tryz.ntmps10
  go_wp2
  go_ret
  exact⟨sD,dR⟩
 ·rw[if_neg c2] at H;obtain⟨b7,b8⟩:=bI c2;have b9:¬ (l0=[]):=fun h_=>c2 (by rw[h_];rfl)
  by_cases c3:(l0.length:Int) > 512
  ·rw[if_pos c3] at H;have d0:decide (512 < (l0.length:Int))=true:=dE c3;have d6:decide (512 < l0.length)=true:=dE (by omega)
   clear c3;obtain rfl:=Option.some.inj H;go_enter Tryz.func10,Tryz.ntmps10
   go_wp2
   go_ret
   exact⟨sD,dR⟩
  ·rw[if_neg c3] at H;have d0:decide (512 < (l0.length:Int))=false:=decide_eq_false c3;have d6:decide (512 < l0.length)=false:=decide_eq_false (by omega)
   clear c3;have H':=aM H;clear H;go_enter Tryz.func10,Tryz.ntmps10
   go_wp2
   go_loopg [3] k (fun kq d7 w'=>∃ (d8:Int),d7=.int .i64 d8∧Aside0 (Bzx.l0 kq l0 d8=some r)∧Aside0 (kq≤k)∧Drawn0 w w')
   case atStart=>exact⟨(0),sD,H',⟨Nat.le_refl _⟩,dR⟩
   case round =>
    clear H';try clear d9
    obtain⟨d8,rfl,HA,e6,⟨e7,rfl⟩⟩:=hrel;cases gk with
    | zero=>exact absurd HA.out (by simp [Bzx.l0])
    | succ k1 =>
     have H:=HA.out;clear HA;simp only[Bzx.l0] at H;by_cases c4:d8 < (l0.length:Int)
     ·rw[if_pos c4] at H;have e8:=dE c4;clear c4;obtain⟨e9,H⟩:=iN H;by_cases c6:(rd l0 d8) < (-1099511627776)
      ·rw[if_pos c6] at H;have f3:=dE c6;clear c6;obtain rfl:=Option.some.inj H;obtain⟨f4,f6,f9,g4,g5⟩:=aI b5.out d8;cases f6;go_wp2
       go_ret
       exact⟨sD,dR⟩
      ·rw[if_neg c6] at H;have f3:decide ((rd l0 d8) < (-1099511627776))=false:=decide_eq_false c6;clear c6;by_cases c7:(rd l0 d8) > 1099511627776
       ·rw[if_pos c7] at H;have g6:decide (1099511627776 < (rd l0 d8))=true:=dE c7;clear c7;obtain rfl:=Option.some.inj H;obtain⟨f4,f6,f9,g4,g5⟩:=aI b5.out d8;cases f6;obtain⟨g7,g8,g9,j3,j4⟩:=aI b5.out d8;obtain rfl:f4=g7:=(by injection g8);go_wp2
        go_ret
        exact⟨sD,dR⟩
       ·rw[if_neg c7] at H;have g6:decide (1099511627776 < (rd l0 d8))=false:=decide_eq_false c7;clear c7;have H':=aM H;clear H;obtain⟨f4,f6,f9,g4,g5⟩:=aI b5.out d8;cases f6;obtain⟨g7,g8,g9,j3,j4⟩:=aI b5.out d8;obtain rfl:f4=g7:=(by injection g8);go_wp2
        go_roundg k1
        case measure=>have:=e6.out;omega
        case rel=>exact⟨(wrap64 (d8+1)),sD,H',⟨by have:=e6.out;omega⟩,dR⟩
     ·rw[if_neg c4] at H;have e8:decide (d8 < (l0.length:Int))=false:=decide_eq_false c4;clear c4;obtain rfl:=Option.some.inj H;go_wp2
      go_ret
      exact⟨sD,dR⟩


mutual
def Azz.j0:Nat→List Int→Bool→Option (Bool)
 | 0,_,_=>none
 | k+1,x0,x20=>if x20=true then(some false) else(Azz.l0 k x0 0)
def Azz.l0:Nat→List Int→Int→Option (Bool)
 | 0,_,_=>none
 | k+1,x0,x3=>if x3 < (x0.length:Int) then(if 0≤x3 then(if(rd x0 x3) < 0 then(some false) else(if(rd x0 x3)≥1000000000 then(some false) else(Azz.l0 k x0 (wrap64 (x3+1))))) else(none)) else(some true)
end
def Azz.f (k:Nat) (l0:List Int):Option (Bool):=if(l0.length:Int) > 48 then(Azz.j0 k l0 true) else(if(l0.length:Int) > 0 then(if 0≤(wrap64 ((l0.length:Int) - 1)) then(if(wrap64 ((l0.length:Int) - 1)) < (l0.length:Int) then(Azz.j0 k l0 ((rd l0 (wrap64 ((l0.length:Int) - 1))) == 0)) else(none)) else(none)) else(Azz.j0 k l0 false))
theorem Azz.mono_l:∀ k,(∀ a6 a7,LeO (Azz.j0 k a6 a7) (Azz.j0 (k+1) a6 a7))∧(∀ a6 a7,LeO (Azz.l0 k a6 a7) (Azz.l0 (k+1) a6 a7))
 | 0=>⟨fun _ _ r h=>by simp [Azz.j0] at h,fun _ _ r h=>by simp [Azz.l0] at h⟩
 | k+1=>by
  obtain⟨ih0,ih1⟩:=Azz.mono_l k;refine⟨?_,?_⟩
  ·intro a6 a7;unfold Azz.j0;exact mM
  ·intro a6 a7;unfold Azz.l0;exact mM
theorem Azz.mono:∀ a6 k,LeO (Azz.f k a6) (Azz.f (k+1) a6):=by
 intro a6 k;obtain⟨ih0,ih1⟩:=Azz.mono_l k;unfold Azz.f;exact mM
theorem Azz.calls (k:Nat) (a6:Option Addr) (a7:Nat) (l0:List Int) (r:Bool) (w:World) (a8:Kd.C (Kd.int .i64) w a6 l0.length l0) (b4:l0.length≤a7) (h:Azz.f k l0=some r) :
  Calls Tryz.prog 69 #[.slice a6 l0.length a7] w fun e w'=>e=.returned (.bool r)∧Drawn0 w w':=by
 have b5:=aM a8;have b6:=aM b4;clear a8 b4;have H:(if(l0.length:Int) > 48 then(Azz.j0 k l0 true) else(if(l0.length:Int) > 0 then(if 0≤(wrap64 ((l0.length:Int) - 1)) then(if(wrap64 ((l0.length:Int) - 1)) < (l0.length:Int) then(Azz.j0 k l0 ((rd l0 (wrap64 ((l0.length:Int) - 1))) == 0)) else(none)) else(none)) else(Azz.j0 k l0 false)))=some r:=h
 clear h;have b7:=aM H;clear H;go_enter Tryz.func69,Tryz.ntmps69
 go_upto_region 1 with (fail)
 go_cut [20] (fun b8 wc=>∃ (kq:Nat) (b9:Bool),b8=.bool b9∧Aside0 (Azz.j0 kq l0 b9=some r)∧Aside0 (kq≤k)∧Drawn0 w wc)
 case first =>
  have H:=b7.out;clear b7;by_cases c3:(l0.length:Int) > 48
  ·rw[if_pos c3] at H;have d0:decide (48 < (l0.length:Int))=true:=dE c3;have d6:decide (48 < l0.length)=true:=dE (by omega)
   clear c3;(first|rw[d0]|(simp only[i64_w,i32_w];rw[d0])|skip)
   have H':=aM H;clear H;go_wp2
   go_meet
   case rel=>exact⟨_,(true),sD,H',⟨by first|omega|exact Nat.le_refl _⟩,dR⟩
  ·rw[if_neg c3] at H;have d0:decide (48 < (l0.length:Int))=false:=decide_eq_false c3;have d6:decide (48 < l0.length)=false:=decide_eq_false (by omega)
   clear c3;(first|rw[d0]|(simp only[i64_w,i32_w];rw[d0])|skip)
   by_cases c4:(l0.length:Int) > 0
   ·rw[if_pos c4] at H;have d7:decide (0 < (l0.length:Int))=true:=dE c4;have d8:decide (0 < l0.length)=true:=dE (by omega)
    clear c4;obtain⟨d9,e6⟩:∃ j_:Int,(wrap64 ((l0.length:Int) - 1))=j_:=⟨_,rfl⟩;replace H:(if 0≤(d9) then(if(d9) < (l0.length:Int) then(Azz.j0 k l0 ((rd l0 (d9)) == 0)) else(none)) else(none))=some r:=by first|(rw[e6] at H;exact H)|(simp only[e6] at H ⊢;exact H)
    have e7:(IntKind.i64.wrap ((l0.length:Int) - 1))=d9:=(i64_w _).trans e6;obtain⟨e8,H⟩:=iN H;obtain⟨e9,H⟩:=iN H;have H':=aM H;clear H;obtain⟨f3,f4,f6,f9,g4⟩:=aI b5.out (d9);cases f4;go_wp2
    go_meet
    case rel=>exact⟨_,(((rd l0 (d9)) == 0)),(by first|rfl|(simp;done)|(simp only[← e6] <;> (first|rfl|simp))|(simp [*];done)),H',⟨by first|omega|exact Nat.le_refl _⟩,dR⟩
   ·rw[if_neg c4] at H;have d7:decide (0 < (l0.length:Int))=false:=decide_eq_false c4;have d8:decide (0 < l0.length)=false:=decide_eq_false (by omega)
    clear c4;have H':=aM H;clear H;go_wp2
    go_meet
    case rel=>exact⟨_,(false),sD,H',⟨by first|omega|exact Nat.le_refl _⟩,dR⟩
 case rest =>
  clear b7;try clear g5
  obtain⟨kq,b9,rfl,HA,g6,⟨mc1,rfl⟩⟩:=hcut;cases kq with
  | zero=>exact absurd HA.out (by simp [Azz.j0])
  | succ g7 =>
   have H:=HA.out;clear HA;simp only[Azz.j0] at H;by_cases c8:b9=true
   ·subst c8;rw[if_pos rfl] at H;obtain rfl:=Option.some.inj H;go_wp2
    go_ret
    exact⟨sD,dR⟩
   ·obtain rfl:=bN c8;rw[if_neg nF] at H
    have H':=aM H;clear H;go_wp2
    go_loopg [3] g7 (fun kq g8 w'=>∃ (g9:Int),g8=.int .i64 g9∧Aside0 (Azz.l0 kq l0 g9=some r)∧Aside0 (kq≤g7)∧Drawn0 w w')
    case atStart=>exact⟨(0),sD,H',⟨Nat.le_refl _⟩,dR⟩
    case round =>
     clear H';try clear j3
     obtain⟨g9,rfl,HA,j4,⟨j5,rfl⟩⟩:=hrel;cases gk with
     | zero=>exact absurd HA.out (by simp [Azz.l0])
     | succ k2 =>
      have H:=HA.out;clear HA;simp only[Azz.l0] at H;by_cases c9:g9 < (l0.length:Int)
      ·rw[if_pos c9] at H;have j6:=dE c9;clear c9;obtain⟨j7,H⟩:=iN H;by_cases j8:(rd l0 g9) < 0
       ·rw[if_pos j8] at H;have j9:=dE j8;clear j8;obtain rfl:=Option.some.inj H;obtain⟨l5,l6,l7,l8,l9⟩:=aI b5.out g9;cases l6;go_wp2
        go_ret
        exact⟨sD,dR⟩
       ·rw[if_neg j8] at H;have j9:decide ((rd l0 g9) < 0)=false:=decide_eq_false j8;clear j8;by_cases m0:(rd l0 g9)≥1000000000
        ·rw[if_pos m0] at H;have m3:decide (1000000000≤(rd l0 g9))=true:=dE m0;clear m0;obtain rfl:=Option.some.inj H;obtain⟨l5,l6,l7,l8,l9⟩:=aI b5.out g9;cases l6;obtain⟨m4,m5,m6,m7,m8⟩:=aI b5.out g9;obtain rfl:l5=m4:=(by injection m5);go_wp2
         go_ret
         exact⟨sD,dR⟩
        ·rw[if_neg m0] at H;have m3:decide (1000000000≤(rd l0 g9))=false:=decide_eq_false m0;clear m0;have H':=aM H;clear H;obtain⟨l5,l6,l7,l8,l9⟩:=aI b5.out g9;cases l6;obtain⟨m4,m5,m6,m7,m8⟩:=aI b5.out g9;obtain rfl:l5=m4:=(by injection m5);go_wp2
         go_roundg k2
         case measure=>have:=g6.out;have:=j4.out;omega
         case rel=>exact⟨(wrap64 (g9+1)),sD,H',⟨by have:=g6.out;have:=j4.out;omega⟩,dR⟩
      ·rw[if_neg c9] at H;have j6:decide (g9 < (l0.length:Int))=false:=decide_eq_false c9;clear c9;obtain rfl:=Option.some.inj H;go_wp2
       go_ret
       exact⟨sD,dR⟩


def Bzy.l0:Nat→List Int→Int→Option (List Int × Int)
 | 0,_,_=>none
 | k+1,x0,x4=>if x4 > 0 then(if 0≤(wrap64 (x4 - 1)) then(if(wrap64 (x4 - 1)) < (x0.length:Int) then(if(rd x0 (wrap64 (x4 - 1)))=0 then(Bzy.l0 k x0 (wrap64 (x4 - 1))) else(if x4 > 48 then(some (([]:List Int),2)) else((some (([]:List Int):List Int)).bind fun y724=>(if 0≤x4 then(if x4≤(x0.length:Int) then(if y724.length+(x0.take (x4:Int).toNat).length < 17592186044416 then(some ((y724 ++ (x0.take (x4:Int).toNat)),0)) else(none)) else(none)) else(none))))) else(none)) else(none)) else(if x4 > 48 then(some (([]:List Int),2)) else((some (([]:List Int):List Int)).bind fun y731=>(if 0≤x4 then(if x4≤(x0.length:Int) then(if y731.length+(x0.take (x4:Int).toNat).length < 17592186044416 then(some ((y731 ++ (x0.take (x4:Int).toNat)),0)) else(none)) else(none)) else(none))))
def Bzy.f (k:Nat) (l0:List Int):Option (List Int × Int):=Bzy.l0 k l0 (l0.length:Int)
theorem Bzy.mono_l:∀ k,(∀ a6 a7,LeO (Bzy.l0 k a6 a7) (Bzy.l0 (k+1) a6 a7))
 | 0=>fun _ _ r h=>by simp [Bzy.l0] at h
 | k+1=>by
  have ih0:=Bzy.mono_l k
  ·intro a6 a7;unfold Bzy.l0;exact mM
theorem Bzy.mono:∀ a6 k,LeO (Bzy.f k a6) (Bzy.f (k+1) a6):=by
 intro a6 k;have ih0:=Bzy.mono_l k;unfold Bzy.f;exact mM
theorem Bzy.calls (k:Nat) (a6:Option Addr) (a7:Nat) (l0:List Int) (a8:List Int) (b4:Int) (w:World) (b5:Kd.C (Kd.int .i64) w a6 l0.length l0) (b6:l0.length≤a7) (h:Bzy.f k l0=some (a8,b4)) :
  Calls Tryz.prog 72 #[.slice a6 l0.length a7] w fun e w'=>∃ v0_:Value,e=.returned (.tuple #[v0_,.int .i64 b4])∧Kd.R (Kd.int .i64) 3 w' w.heap.size (fun _=>True) v0_ a8∧Below w.heap.size w w':=by
 have b7:=aM b5;have b8:=aM b6;clear b5 b6;have HB:=aM (Below.refl w.heap.size w);have H:(Bzy.l0 k l0 (l0.length:Int))=some (a8,b4):=h;clear h;have H':=aM H;clear H;go_enter Tryz.func72,Tryz.ntmps72
 go_wp2
 go_loopg [4] k (fun kq b9 w'=>∃ (d0:Int),b9=.int .i64 d0∧Aside0 (Bzy.l0 kq l0 d0=some (a8,b4))∧Aside0 (kq≤k)∧Aside0 (Below w.heap.size w w'))
 case atStart=>exact⟨((l0.length:Int)),sD,H',⟨Nat.le_refl _⟩,⟨pB⟩⟩
 case round =>
  clear H';obtain⟨d0,rfl,HA,d6,HB⟩:=hrel;cases gk with
  | zero=>exact absurd HA.out (by simp [Bzy.l0])
  | succ k1 =>
   have H:=HA.out;clear HA;simp only[Bzy.l0] at H;by_cases c2:d0 > 0
   ·rw[if_pos c2] at H;have d7:decide (0 < d0)=true:=dE c2;clear c2;obtain⟨d8,d9⟩:∃ j_:Int,(wrap64 (d0 - 1))=j_:=⟨_,rfl⟩;replace H:(if 0≤(d8) then(if(d8) < (l0.length:Int) then(if(rd l0 (d8))=0 then(Bzy.l0 k1 l0 d8) else(if d0 > 48 then(some (([]:List Int),2)) else((some (([]:List Int):List Int)).bind fun e6=>(if 0≤d0 then(if d0≤(l0.length:Int) then(if e6.length+(l0.take (d0:Int).toNat).length < 17592186044416 then(some ((e6 ++ (l0.take (d0:Int).toNat)),0)) else(none)) else(none)) else(none))))) else(none)) else(none))=some (a8,b4):=by first|(rw[d9] at H;exact H)|(simp only[d9] at H ⊢;exact H)
    have e7:(IntKind.i64.wrap (d0 - 1))=d8:=(i64_w _).trans d9;obtain⟨e8,H⟩:=iN H;obtain⟨e9,H⟩:=iN H;by_cases c6:(rd l0 (d8))=0
    ·rw[if_pos c6] at H;obtain⟨f3,f4⟩:=bE c6;clear c6;have H':=aM H;clear H;obtain⟨f6,f9,g4,g5,g6⟩:=aI b7.out (d8);cases f9
     replace g4:=hB HB g4;go_wp2
     go_roundg k1
     case measure=>have:=d6.out;omega
     case rel=>exact⟨(d8),(by first|rfl|(simp;done)|(simp only[← d9] <;> (first|rfl|simp))|(simp [*];done)),H',⟨by have:=d6.out;omega⟩,⟨pB⟩⟩
    ·rw[if_neg c6] at H;obtain⟨f3,f4⟩:=bI c6;by_cases c7:d0 > 48
     ·rw[if_pos c7] at H;have g7:decide (48 < d0)=true:=dE c7;clear c7;obtain⟨rfl,rfl⟩:=q2 H;obtain⟨f6,f9,g4,g5,g6⟩:=aI b7.out (d8);cases f9
      replace g4:=hB HB g4;go_wp2
      go_ret2
      exact⟨_,by first|rfl|(simp [errW_none,errW_some] <;> rfl)|(simp only[← d9];first|rfl|(simp [errW_none,errW_some] <;> rfl))|(simp [*,errW_none,errW_some] <;> rfl),nK,pB⟩
     ·rw[if_neg c7] at H;have g7:decide (48 < d0)=false:=decide_eq_false c7;clear c7;obtain⟨e6,g8⟩:∃ y_:List Int,y_=(([]:List Int)):=⟨_,rfl⟩;replace H:(if 0≤d0 then(if d0≤(l0.length:Int) then(if e6.length+(l0.take (d0:Int).toNat).length < 17592186044416 then(some ((e6 ++ (l0.take (d0:Int).toNat)),0)) else(none)) else(none)) else(none))=some (a8,b4):=yE g8 H
      have g9:=aM g8;clear g8;obtain⟨c8,H⟩:=iO H;have j3:=eq_true c8;have j4:decide (0≤d0)=true:=dE c8;clear c8;obtain⟨c9,H⟩:=iO H;have j5:=eq_true c9;have j6:decide (d0≤(l0.length:Int))=true:=dE c9;clear c9;obtain⟨c10,H⟩:=iO H;have LMc10:=aM c10;clear c10;obtain⟨j7,j8⟩:∃ y_:List Int,y_=(e6 ++ (l0.take (d0:Int).toNat)):=⟨_,rfl⟩;replace H:(some (j7,0))=some (a8,b4):=yE j8 H
      have j9:=aM j8;clear j8;obtain⟨rfl,rfl⟩:=q2 H;obtain⟨f6,f9,g4,g5,g6⟩:=aI b7.out (d8);cases f9
      replace g4:=hB HB g4;go_wp2_with (first|((with_reducible refine gd 21 rfl ?_);refine iL 21 [] ?_;intro l5 l6 l7 hb;replace l7:=rY g9 l7;have l8:=rL l7;replace HB:=bB hb;clear hb l7;obtain⟨i013,l9,_,hsz13,_⟩:=info_parts info3;obtain⟨hcut13,m0,hC13⟩:=print_take_of (P:=Tryz.prog) (Value.int .i64) 0 24 3 .i64 Tryz.underlying24 l9 hsz13 (some f6) a7 l0 d0 (oE aS) (oE aS) b8.out;have m3:=aM (Kd.C_of_reads (h1:=fun _=>rfl) (m0 _ (Kd.reads_of_C b7.out)));have m4:=aM hC13;clear m0 hC13 l9 hsz13)|((with_reducible refine gate_builtin (b:=.append) (xs:=#[.tmp 21,.tmp 24]) rfl ?_);at_builtin;refine Kd.R_append_rows (Kd.int .i64) (w0:=w) w.heap.size rfl (.tmp 21) (.tmp 24) 24 3 (.int .i64 0) 8 rfl Tryz.underlying24 info3 rfl (by decide) (by omega) l5 e6 (l0.take (d0:Int).toNat) _ _ _ (fun _=>True) (fun _=>False) rfl rfl ?aO ?aR (fun _ _ h=>h) (fun _ h=>h.elim) ?aF ?aB ?aS ?aL ?_;(case aR=>first|(rw[← show(l0.take (d0:Int).toNat).length=d0.toNat from(by rw[List.length_take];have h_:(d0:Int)≤(l0.length:Int):=oE aS;omega)];(exact cB m3);done)|(have hq_:=m3.out;rw[show(l0.take (d0:Int).toNat).length=d0.toNat from(by rw[List.length_take];have h_:(d0:Int)≤(l0.length:Int):=oE aS;omega)] at hq_;(exact cX (Kd.C_below hq_ HB.out));done)|(exact cB m3));(case aB=>exact pB);(case aF=>exact(fun _ _=>trivial));(case aO=>exact(rX l8.out));(case aS=>exact(below_size pB));(case aL=>have:=LMc10.out;have hlx_:=(show(l0.take (d0:Int).toNat).length=d0.toNat from(by rw[List.length_take];have h_:(d0:Int)≤(l0.length:Int):=oE aS;omega));omega);intro m5 m6 ho hb hg hat;rw[← j9.out] at ho;have m7:=aM (ho);replace HB:=aM (hb);clear l8 ho hb hg hat))
      go_ret2
      exact⟨_,by first|rfl|(simp [errW_none,errW_some] <;> rfl)|(simp only[← d9];first|rfl|(simp [errW_none,errW_some] <;> rfl))|(simp [*,errW_none,errW_some] <;> rfl),rX m7.out,pB⟩
   ·rw[if_neg c2] at H;have d7:decide (0 < d0)=false:=decide_eq_false c2;clear c2;by_cases m8:d0 > 48
    ·rw[if_pos m8] at H;have m9:decide (48 < d0)=true:=dE m8;clear m8;obtain⟨rfl,rfl⟩:=q2 H;go_wp2
     go_ret2
     exact⟨_,eW,nK,pB⟩
    ·rw[if_neg m8] at H;have m9:decide (48 < d0)=false:=decide_eq_false m8;clear m8;obtain⟨n0,n6⟩:∃ y_:List Int,y_=(([]:List Int)):=⟨_,rfl⟩;replace H:(if 0≤d0 then(if d0≤(l0.length:Int) then(if n0.length+(l0.take (d0:Int).toNat).length < 17592186044416 then(some ((n0 ++ (l0.take (d0:Int).toNat)),0)) else(none)) else(none)) else(none))=some (a8,b4):=yE n6 H
     have n7:=aM n6;clear n6;by_cases n8:0≤d0
     ·rw[if_pos n8] at H;have n9:=eq_true n8;have o0:=dE n8;clear n8;obtain⟨o8,H⟩:=iO H;have o9:=eq_true o8;have p0:decide (d0≤(l0.length:Int))=true:=dE o8;clear o8;obtain⟨p3,H⟩:=iO H;have LMc18:=aM p3;clear p3;obtain⟨p4,p5⟩:∃ y_:List Int,y_=(n0 ++ (l0.take (d0:Int).toNat)):=⟨_,rfl⟩;replace H:(some (p4,0))=some (a8,b4):=yE p5 H
      have r5:=aM p5;clear p5;obtain⟨rfl,rfl⟩:=q2 H;go_wp2_with (first|((with_reducible refine gd 21 rfl ?_);refine iL 21 [] ?_;intro r6 r7 r8 hb;replace r8:=rY n7 r8;have r9:=rL r8;replace HB:=bB hb;clear hb r8;obtain⟨i021,t6,_,hsz21,_⟩:=info_parts info3;obtain⟨hcut21,t7,hC21⟩:=print_take_of (P:=Tryz.prog) (Value.int .i64) 0 24 3 .i64 Tryz.underlying24 t6 hsz21 a6 a7 l0 d0 (oE aS) (oE aS) b8.out;have t8:=aM (Kd.C_of_reads (h1:=fun _=>rfl) (t7 _ (Kd.reads_of_C b7.out)));have z1:=aM hC21;clear t7 hC21 t6 hsz21)|((with_reducible refine gate_builtin (b:=.append) (xs:=#[.tmp 21,.tmp 24]) rfl ?_);at_builtin;refine Kd.R_append_rows (Kd.int .i64) (w0:=w) w.heap.size rfl (.tmp 21) (.tmp 24) 24 3 (.int .i64 0) 8 rfl Tryz.underlying24 info3 rfl (by decide) (by omega) r6 n0 (l0.take (d0:Int).toNat) _ _ _ (fun _=>True) (fun _=>False) rfl rfl ?aO ?aR (fun _ _ h=>h) (fun _ h=>h.elim) ?aF ?aB ?aS ?aL ?_;(case aR=>first|(rw[← show(l0.take (d0:Int).toNat).length=d0.toNat from(by rw[List.length_take];have h_:(d0:Int)≤(l0.length:Int):=oE aS;omega)];(exact cB t8);done)|(have hq_:=t8.out;rw[show(l0.take (d0:Int).toNat).length=d0.toNat from(by rw[List.length_take];have h_:(d0:Int)≤(l0.length:Int):=oE aS;omega)] at hq_;(exact cX (Kd.C_below hq_ HB.out));done)|(exact cB t8));(case aB=>exact pB);(case aF=>exact(fun _ _=>trivial));(case aO=>exact(rX r9.out));(case aS=>exact(below_size pB));(case aL=>have:=LMc18.out;have hlx_:=(show(l0.take (d0:Int).toNat).length=d0.toNat from(by rw[List.length_take];have h_:(d0:Int)≤(l0.length:Int):=oE aS;omega));omega);intro z2 z6 ho hb hg hat;rw[← r5.out] at ho;have z7:=aM (ho);replace HB:=aM (hb);clear r9 ho hb hg hat))
      go_ret2
      exact⟨_,eW,rX z7.out,pB⟩
     ·rw[if_neg n8] at H;exact absurd H (by simp)

def Ezq.f (l0:List Int) (a1:Int):Option (Int):=if a1 < (l0.length:Int) then(if 0≤a1 then(some (rd l0 a1)) else(none)) else(some 0)
theorem Ezq.calls (a6:Option Addr) (a7:Nat) (l0:List Int) (a8:Int) (r:Int) (w:World) (b4:Kd.C (Kd.int .i64) w a6 l0.length l0) (b5:l0.length≤a7) (h:Ezq.f l0 a8=some r) :
  Calls Tryz.prog 89 #[.slice a6 l0.length a7,.int .i64 a8] w fun e w'=>e=.returned (.int .i64 r)∧Drawn0 w w':=by
 have b6:=aM b4;have b7:=aM b5;clear b4 b5;have H:(if a8 < (l0.length:Int) then(if 0≤a8 then(some (rd l0 a8)) else(none)) else(some 0))=some r:=h
 clear h;by_cases c3:a8 < (l0.length:Int)
 ·rw[if_pos c3] at H;have b8:=dE c3;clear c3;obtain⟨b9,H⟩:=iN H;obtain rfl:=Option.some.inj H;obtain⟨d0,d6,d7,d8,d9⟩:=aI b6.out a8;cases d6;go_enter Tryz.func89,Tryz.ntmps89
  go_wp2
  go_ret
  exact⟨sD,dR⟩
 ·rw[if_neg c3] at H;have b8:decide (a8 < (l0.length:Int))=false:=decide_eq_false c3;clear c3;obtain rfl:=Option.some.inj H;go_enter Tryz.func89,Tryz.ntmps89
  go_wp2
  go_ret
  exact⟨sD,dR⟩

end Go.Proofs.YtokkiljkgejnhaaGreat.Print
