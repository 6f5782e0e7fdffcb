import Derived.Test.YtbnpcplckcipfaaPrint0
import Derived.Test.YtbnpcplckcipfaaPrint17
import Derived.Test.YtbnpcplckcipfaaPrint24
namespace Go.Proofs.Ytbnpcplckcipfaa.Print
open Go.RowKit Go.Proofs.YtbnpcplckcipfaaW.PrintWords Go.Proofs.YtbnpcplckcipfaaW.PrintLast Go.Proofs.YtbnpcplckcipfaaW.PrintMore
attribute [local go_sem] dF dG eB eD dm dn dH dI
set_option linter.unusedVariables false
set_option maxRecDepth 100000
set_option maxHeartbeats 8000000
set_option linter.unusedSimpArgs false

def Ezx.l0:Nat→List (S33)→Int→Int→Bool→List Int→List Int→Option (Bool × List Int × List Int × Int)
 | 0,_,_,_,_,_,_=>none
 | k+1,x21,x22,x23,x379000,x379001,x379002=>if x23 < x22 then(if 0≤x23 then(if x23 < (x21.length:Int) then((Fzx.f k x379000 x379001 x379002 ((ag x21 x23).f0) ((ag x21 x23).f1) ((ag x21 x23).f2)).bind fun bt381=>(if bt381.2.2.2=0 then(Ezx.l0 k x21 x22 (wrap64 (x23+1)) bt381.1 bt381.2.1 bt381.2.2.1) else(some (false,([]:List Int),([]:List Int),bt381.2.2.2)))) else(none)) else(none)) else(some (x379000,x379001,x379002,0))
def Ezx.f (k:Nat) (l0:List (S33)):Option (Bool × List Int × List Int × Int):=if(l0.length:Int) > 4096 then(some (false,([]:List Int),([]:List Int),8)) else((Czq.f k l0).bind fun t374=>(if t374=true then((Hzx.f).bind fun t375=>(Ezx.l0 k l0 (l0.length:Int) 0 false ([]:List Int) t375)) else(some (false,([]:List Int),([]:List Int),3))))
theorem Ezx.mono_l:∀ k,(∀ a6 a7 a8 a9 b4 b5,LeO (Ezx.l0 k a6 a7 a8 a9 b4 b5) (Ezx.l0 (k+1) a6 a7 a8 a9 b4 b5))
 | 0=>fun _ _ _ _ _ _ r h=>by simp [Ezx.l0] at h
 | k+1=>by
  have ih0:=Ezx.mono_l k
  ·intro a6 a7 a8 a9 b4 b5;unfold Ezx.l0;have i0:=@Fzx.mono;have i1:=@Czq.mono;exact mM
theorem Ezx.mono:∀ a6 k,LeO (Ezx.f k a6) (Ezx.f (k+1) a6):=by
 intro a6 k;have ih0:=Ezx.mono_l k;unfold Ezx.f;have i0:=@Fzx.mono;have i1:=@Czq.mono;exact mM
theorem Ezx.calls (k:Nat) (a6:Option Addr) (a7:Nat) (l0:List (S33)) (a8:Bool) (a9:List Int) (b4:List Int) (b5:Int) (w:World) (b6:Kd.C k33 w a6 l0.length l0) (b7:l0.length≤a7) (h:Ezx.f k l0=some (a8,a9,b4,b5)) :
  Calls Try.prog 36 #[.slice a6 l0.length a7] w fun e w'=>∃ v1_ v2_:Value,e=.returned (.tuple #[.agg #[.bool a8,v1_,v2_],.int .i64 b5])∧rI w' w (oV v2_) v1_ a9∧rI w' w (oV v1_) v2_ b4∧bw w w':=by
 have hu33:=Try.underlying33;have b8:=aM b6;have b9:=aM b7;clear b6 b7;have HB:=aM (Below.refl w.heap.size w);have H:(if(l0.length:Int) > 4096 then(some (false,([]:List Int),([]:List Int),8)) else((Czq.f k l0).bind fun d6=>(if d6=true then((Hzx.f).bind fun d7=>(Ezx.l0 k l0 (l0.length:Int) 0 false ([]:List Int) d7)) else(some (false,([]:List Int),([]:List Int),3)))))=some (a8,a9,b4,b5):=h
 clear h;have d8:=aM H;clear H;go_enter Try.func36,Try.ntmps36
 go_upto_if 9 with (first|((with_reducible refine gd 2 rfl ?_);refine bz 33 ?_;intro d9 hg e6 e7 hb;have f6:=gA w hg;replace HB:=bB hb;clear hb hg))
 have H:=d8.out;clear d8;by_cases c4:(l0.length:Int) > 4096
 ·rw[if_pos c4] at H;have f8:decide (4096 < (l0.length:Int))=true:=dE c4;have g5:decide (4096 < l0.length)=true:=dE (by omega)
  clear c4;(first|rw[f8]|(simp only[aH,bg];rw[f8])|skip)
  obtain⟨rfl,rfl,rfl,rfl⟩:=q4 H;obtain⟨g8,g9,j3,j4,j5,j6⟩:=bk3 e7;go_wp2
  refine rC d9 33 #[.bool false,.slice none 0 0,.slice none 0 0] (kQ e7) Try.underlying33 ?_
  exact⟨_,_,eW,nK,nK,pB⟩
 ·rw[if_neg c4] at H;have f8:decide (4096 < (l0.length:Int))=false:=decide_eq_false c4;have g5:decide (4096 < l0.length)=false:=decide_eq_false (by omega)
  clear c4;(first|rw[f8]|(simp only[aH,bg];rw[f8])|skip)
  obtain⟨d6,j7,H⟩:=bT H;(try dsimp only at H);have j8:=aM H;clear H;go_upto_if 14 with (first|((with_reducible refine gc 62 rfl ?_);refine gC 62 (some 16) Try.func62 #[.slice a6 l0.length a7] ?_;(with_reducible refine(Czq.calls k _ _ l0 d6 _ ?_ ?_ j7.out).mono ?_);exact cB b8;exact b9.out;rintro e j9 ⟨rfl,hb⟩;refine⟨_,rfl,?_⟩;replace e7:=kb e7 hb;replace HB:=bB hb;clear hb))
  have H:=j8.out;clear j8;by_cases c9:d6=true
  ·subst c9;rw[if_pos rfl] at H;obtain⟨d7,l5,H⟩:=bT H;(try dsimp only at H);have H':=aM H;clear H;go_wp2_with (first|((with_reducible refine gc 63 rfl ?_);refine gC 63 (some 19) Try.func63 #[] ?_;(with_reducible refine(Hzx.calls  d7 _ l5.out).mono ?_);rintro e l6 ⟨l7,rfl,l8,hb⟩;refine⟨_,rfl,?_⟩;have l9:=rL l8;replace e7:=kb e7 hb;replace HB:=bB hb;clear hb l8;obtain⟨m0,m4,rfl⟩:=Kd.aj l9.out)|((with_reducible refine gd 4 rfl ?_);refine bz 33 ?_;intro m5 hg m6 m7 hb;have m8:=gA w hg;have n0:=nl hg e7;have n7:=ng hg e7;replace l9:=rB l9 hb;replace e7:=kb e7 hb;replace HB:=bB hb;clear hb hg;have n8:=n7.out;have n9:=n0.out;obtain⟨o0,o8,o9,p9,r6,r7⟩:=bk3 m7))
   go_loopg [23] k (fun kq r8 w'=>∃ (r9:Int) (t4:Bool) (t5:Bool) (t6:List Int) (t7:List Int) (u379001:Value) (u379002:Value),r8=.int .i64 r9∧ae (Ezx.l0 kq l0 (l0.length:Int) r9 t5 t6 t7=some (a8,a9,b4,b5))∧ae (kq≤k)∧ae (rI w' w (oV u379002) u379001 t6)∧ae (rI w' w (oV u379001) u379002 t7)∧ae (w'.heap[d9]?=some (.cells #[.bool t4,(.slice none 0 0),(.slice none 0 0)] 33 (0,0)))∧ae (w'.heap[m5]?=some (.cells #[.bool t5,u379001,u379002] 33 (0,0)))∧ae (bw w w'))
   case atStart=>exact⟨(0),(false),(false),(([]:List Int)),(d7),(.slice none 0 0),(.slice m0 d7.length m4),sD,H',⟨Nat.le_refl _⟩,⟨nK⟩,⟨by exact Kd.ah (rT l9 m7) (fun _ hk=>(by simp [Value.ownBlock]))⟩,⟨by exact kf e7 n0⟩,⟨by exact kQ m7⟩,⟨pB⟩⟩
   case round =>
    clear H';try clear t8
    obtain⟨r9,t4,t5,t6,t7,u379001,u379002,rfl,HA,t9,z3,z4,e7,m7,HB⟩:=hrel;cases gk with
    | zero=>exact absurd HA.out (by simp [Ezx.l0])
    | succ k1 =>
     have H:=HA.out;clear HA;simp only[Ezx.l0] at H;replace H:=iD H;rcases H with⟨z6,H⟩|⟨z6,H⟩
     ·(first|rw[z6]|(simp only[aH,bg];rw[z6])|skip)
      obtain⟨z7,H⟩:=iN H;obtain⟨z8,H⟩:=iN H;obtain⟨⟨z9,B0,B5,B9⟩,C0,H⟩:=bT H;(try dsimp only at H);have C1:=aM H;clear H;obtain⟨C2,C3,C4,C6,C7,C8,C9,D4,D5,D6,D7,D8,D9⟩:=gT b8.out r9 (oE aS) (oE aS);cases C8
      replace C9:=hB HB C9;replace D4:=hB HB D4;replace D5:=hB HB D5;have E0:=aM D7;have E1:=aM D6;clear D7 D6;have E2:=aM D9;have E3:=aM D8;clear D9 D8;have E4:=eT (r9);have E5:=eU (r9) l0.length;go_upto_if 34 with (first|((with_reducible refine gd 6 rfl ?_);refine bz 33 ?_;intro E6 hg E7 E8 hb;have E9:=gA w hg;have F2:=nl hg e7;have F3:=ng hg e7;have F4:=nl hg m7;have F5:=ng hg m7;replace z3:=rB z3 hb;replace z4:=rB z4 hb;replace e7:=kb e7 hb;replace m7:=kb m7 hb;replace HB:=bB hb;clear hb hg;have F6:=F3.out;have F7:=F2.out;have F8:=F5.out;have F9:=F4.out;obtain⟨G5,G9,H5,H6,H7,H8⟩:=bk3 E8;have H9:=n7.out;have I0:=n0.out;obtain⟨I3,I4,I5,I6,I7,I8⟩:=bk3 m7;obtain⟨I9,J0,rfl⟩:=Kd.aj z3.out;obtain⟨J1,J2,rfl⟩:=Kd.aj z4.out)|((with_reducible refine gc 64 rfl ?_);refine gC 64 (some 30) Try.func64 #[.agg #[.bool t5,.slice I9 t6.length J0,.slice J1 t7.length J2],.agg #[.bool ((ag l0 r9).f0),.slice C3 ((ag l0 r9).f1).length C4,.slice C6 ((ag l0 r9).f2).length C7]] ?_;(with_reducible refine(Fzx.calls k1 t5 _ _ t6 _ _ t7 ((ag l0 r9).f0) _ _ ((ag l0 r9).f1) _ _ ((ag l0 r9).f2) z9 B0 B5 B9 _ ?_ ?_ ?_ ?_ ?_ ?_ ?_ ?_ C0.out).mono ?_);(focus(refine(Kd.ax (e:=3) (base:=w.heap.size) (ok:=fun k_=>oN J1 t7.length J2 k_) (n:=t6.length) (c:=J0) ?_).2.2;exact(rT z3 E8)));exact lR z3;(focus(refine(Kd.ax (e:=3) (base:=w.heap.size) (ok:=fun k_=>oN I9 t6.length J0 k_) (n:=t7.length) (c:=J2) ?_).2.2;exact(rT z4 E8)));exact lR z4;exact Kd.aT E0.out pB;exact E1.out;exact Kd.aT E2.out pB;exact E3.out;rintro e J3 ⟨J4,J5,rfl,l8,J6,hb⟩;refine⟨_,rfl,?_⟩;have J7:=rL (Kd.dL (Kd.dL l8 (Kd.dS (rT z3 E8))) (Kd.dS (rT z4 E8)));have J8:=rL (Kd.dL (Kd.dL J6 (Kd.dS (rT z3 E8))) (Kd.dS (rT z4 E8)));replace z3:=ro (rT z3 E8) hb l8 J6;replace z4:=ro (rT z4 E8) hb l8 J6;replace e7:=kF e7 F2 hb;replace m7:=kF m7 F4 hb;replace E8:=kP (o':=.cells #[.bool ((ag l0 r9).f0),.slice C3 ((ag l0 r9).f1).length C4,.slice C6 ((ag l0 r9).f2).length C7] 33 (0,0)) E8 hb;replace HB:=bB hb;clear hb l8 J6)|((with_reducible refine gd 7 rfl ?_);refine bz 33 ?_;intro J9 hg K0 K1 hb;have K2:=gA w hg;have K4:=nl hg e7;have K5:=ng hg e7;have K6:=nl hg m7;have K7:=ng hg m7;have K8:=nl hg E8;have K9:=ng hg E8;replace z3:=rB z3 hb;replace z4:=rB z4 hb;replace J7:=rB J7 hb;replace J8:=rB J8 hb;replace e7:=kb e7 hb;replace m7:=kb m7 hb;replace E8:=kb E8 hb;replace HB:=bB hb;clear hb hg;have L0:=K5.out;have L8:=K4.out;have L9:=K7.out;have M0:=K6.out;have M3:=K9.out;have M4:=K8.out;obtain⟨M5,M6,M7,M8,M9,N0⟩:=bk3 K1;obtain⟨N1,N2,rfl⟩:=Kd.aj J7.out;obtain⟨N3,N4,rfl⟩:=Kd.aj J8.out))
      have H:=C1.out;clear C1;replace H:=iE H;rcases H with⟨N6,N7,H⟩|⟨N5,N6,N7,H⟩
      ·(first|rw[N6]|(simp only[aH,bg];rw[N6])|skip)
       have H':=aM H;clear H;have N8:=K5.out;have N9:=K4.out;have O0:=K7.out;have O1:=K6.out;have O2:=K9.out;have O3:=K8.out;obtain⟨O4,O5,O6,O7,O8,O9⟩:=bk3 K1;have P0:=n7.out;have P3:=n0.out;have P4:=F4.out;have P5:=F5.out;obtain⟨P6,P7,P8,P9,Q0,Q1⟩:=bk3 m7;go_wp2
       go_roundg k1
       case measure=>have:=t9.out;omega
       case rel=>exact⟨(wrap64 (r9+1)),(t4),(z9),(B0),(B5),(.slice N1 B0.length N2),(.slice N3 B5.length N4),sD,H',⟨by have:=t9.out;omega⟩,⟨by exact rX (Kd.ah (Kd.bF (p:=⟨m5,2,none⟩) (Kd.bF (p:=⟨m5,1,none⟩) (Kd.bF (p:=⟨m5,0,none⟩) (Kd.bF (p:=⟨J9,2,none⟩) (Kd.bF (p:=⟨J9,1,none⟩) (Kd.bF (p:=⟨J9,0,none⟩) (Kd.aA (Kd.aA J7.out K1.out (by decide)) m7.out (by decide)) (fun _ hk=>hk.1.2) (.bool z9)) (fun _ hk=>hk.1.2) (.slice N1 B0.length N2)) (fun _ hk=>hk.1.2) (.slice N3 B5.length N4)) (fun _ hk=>hk.2) (.bool z9)) (fun _ hk=>hk.2) (.slice N1 B0.length N2)) (fun _ hk=>hk.2) (.slice N3 B5.length N4)) (fun _ hk=>hk.1.1.1.1))⟩,⟨by exact rX (Kd.ah (Kd.bF (p:=⟨m5,2,none⟩) (Kd.bF (p:=⟨m5,1,none⟩) (Kd.bF (p:=⟨m5,0,none⟩) (Kd.bF (p:=⟨J9,2,none⟩) (Kd.bF (p:=⟨J9,1,none⟩) (Kd.bF (p:=⟨J9,0,none⟩) (Kd.aA (Kd.aA J8.out K1.out (by decide)) m7.out (by decide)) (fun _ hk=>hk.1.2) (.bool z9)) (fun _ hk=>hk.1.2) (.slice N1 B0.length N2)) (fun _ hk=>hk.1.2) (.slice N3 B5.length N4)) (fun _ hk=>hk.2) (.bool z9)) (fun _ hk=>hk.2) (.slice N1 B0.length N2)) (fun _ hk=>hk.2) (.slice N3 B5.length N4)) (fun _ hk=>hk.1.1.1.1))⟩,⟨by exact kf2 e7 n0 K4⟩,⟨by refine bD ?_;refine au (cs:=#[.bool z9,.slice N1 B0.length N2,.slice J1 t7.length J2]) ?_ 2 _ rfl;refine bD ?_;refine au (cs:=#[.bool z9,.slice I9 t6.length J0,.slice J1 t7.length J2]) ?_ 1 _ rfl;refine bD ?_;refine au (cs:=#[.bool t5,.slice I9 t6.length J0,.slice J1 t7.length J2]) ?_ 0 _ rfl;refine bD ?_;refine av ?_ K6.out _;refine bD ?_;refine av ?_ K6.out _;refine bD ?_;refine av ?_ K6.out _;(with_reducible repeat(first|refine cK ?_ _|refine az ?_|refine aK ?_ _));exact m7.out⟩,⟨pB⟩⟩
      ·(first|rw[N6]|(simp only[aH,bg];rw[N6])|skip)
       obtain⟨rfl,rfl,rfl,rfl⟩:=q4 H;have Q2:=n0.out;have Q3:=n7.out;have Q4:=F2.out;have Q5:=F3.out;have Q6:=K4.out;have Q7:=K5.out;obtain⟨Q8,Q9,R0,R1,R2,R3⟩:=bk3 e7;go_wp2
       refine rC d9 33 #[.bool false,.slice none 0 0,.slice none 0 0] (by refine bD ?_;refine au (cs:=#[.bool false,.slice none 0 0,.slice none 0 0]) ?_ 2 _ rfl;refine bD ?_;refine au (cs:=#[.bool false,.slice none 0 0,.slice none 0 0]) ?_ 1 _ rfl;refine bD ?_;refine au (cs:=#[.bool t4,.slice none 0 0,.slice none 0 0]) ?_ 0 _ rfl;refine bD ?_;refine av ?_ K4.out _;refine bD ?_;refine av ?_ K4.out _;refine bD ?_;refine av ?_ K4.out _;(with_reducible repeat(first|refine cK ?_ _|refine az ?_|refine aK ?_ _));exact e7.out) Try.underlying33 ?_
       exact⟨_,_,eW,nK,nK,pB⟩
     ·(first|rw[z6]|(simp only[aH,bg];rw[z6])|skip)
      obtain⟨rfl,rfl,rfl,rfl⟩:=q4 H;have R4:=n7.out;have R5:=n0.out;obtain⟨R6,R7,R8,R9,U0,U1⟩:=bk3 m7;obtain⟨U2,U3,U4,U5,U6,U7⟩:=bk3 e7;obtain⟨U8,U9,rfl⟩:=Kd.aj z3.out;obtain⟨V0,V4,rfl⟩:=Kd.aj z4.out;go_wp2
      refine rC d9 33 #[.bool t5,.slice U8 t6.length U9,.slice V0 t7.length V4] (kQ e7) Try.underlying33 ?_
      exact⟨_,_,eW,by exact Kd.ah (rT z3 e7) (fun _ hk=>hk),by exact Kd.ah (rT z4 e7) (fun _ hk=>hk),pB⟩
  ·obtain rfl:=bN c9;rw[if_neg nF] at H
   obtain⟨rfl,rfl,rfl,rfl⟩:=q4 H;obtain⟨V5,V6,V7,V8,V9,W3⟩:=bk3 e7;go_wp2
   refine rC d9 33 #[.bool false,.slice none 0 0,.slice none 0 0] (kQ e7) Try.underlying33 ?_
   exact⟨_,_,eW,nK,nK,pB⟩

end Go.Proofs.Ytbnpcplckcipfaa.Print
