import Derived.Test.YtbnpcplckcipfaaPrint0
import Derived.Test.YtbnpcplckcipfaaPrint10
import Derived.Test.YtbnpcplckcipfaaPrint26
import Derived.Test.YtbnpcplckcipfaaPrint33
namespace Go.Proofs.Ytbnpcplckcipfaa.Print
open Go.RowKit Go.Proofs.YtbnpcplckcipfaaW.PrintWords Go.Proofs.YtbnpcplckcipfaaW.PrintLast Go.Proofs.YtbnpcplckcipfaaW.PrintMore
attribute [local go_sem] max2_int min2_int max_two min_two max_three min_three max_four min_four
set_option linter.unusedVariables false
set_option maxRecDepth 100000
set_option maxHeartbeats 8000000
set_option linter.unusedSimpArgs false

/-- One number of a tank that is drawn from: what is left,and what is taken. -/
def draw_g (k:Nat) (mass:Int) (lb:Bool) (l1 l2:List Int) (l:List S33) (j:Int) (ls:List S33):Option (List S33 × S33 × Int) :=
 if ls.length≤1000 then(if mass=0 then(Hzm.f (rd_T33 l j).f0 (rd_T33 l j).f1 (rd_T33 l j).f2).bind fun x=>(Dzm.f k 0).bind fun y=>some (ls ++ [(⟨x.1,x.2.1,x.2.2⟩:S33)],(⟨y.1,y.2.1,y.2.2⟩:S33),0)
 else(Dzm.f k mass).bind fun m=>(Fzj.f k (rd_T33 l j).f0 (rd_T33 l j).f1 (rd_T33 l j).f2 m.1 m.2.1 m.2.2).bind fun p=>if p.2.2.2=0 then(Hzq.f k p.1 p.2.1 p.2.2.1 lb l1 l2).bind fun x=>if x.2.2.2=0 then(Gzy.f k (rd_T33 l j).f0 (rd_T33 l j).f1 (rd_T33 l j).f2 x.1 x.2.1 x.2.2.1).bind fun t=>some (ls ++ [(⟨t.1,t.2.1,t.2.2.1⟩:S33)],(⟨x.1,x.2.1,x.2.2.1⟩:S33),t.2.2.2) else some (ls,(⟨false,[],[]⟩:S33),x.2.2.2) else some (ls,(⟨false,[],[]⟩:S33),p.2.2.2)) else none
theorem cell_eq {w W:World} {p:Addr} {v:Value} (h:W.heap[p.block]?=w.heap[p.block]?) (hc:w.cell? p=some v):W.cell? p=some v:=by
 rw[← hc];simp only[World.cell?,h]
theorem FK_zero (W:World) (ok:Nat→Prop):Kd.FK k33 W ok (⟨false,[],[]⟩:S33) [.bool false,.slice none 0 0,.slice none 0 0] :=
 k33_mkF _ _ (⟨false,[],[]⟩:S33) (Nat.le_refl _) (Kd.V_F (base:=0) (Kd.V_nil (Kd.int .i64) 3 W 0 ok)) (Nat.le_refl _) (Kd.V_F (base:=0) (Kd.V_nil (Kd.int .i64) 3 W 0 ok))
structure DrawP (w0 w:World) (gl:Nat) (okl:Nat→Prop) (b:Bool) (p q:List Int) (r:Int) (s':List S33) (e:Ending) (w':World):Prop where
 mk :: (out:∃ (v1 v2 u':Value) (okl':Nat→Prop),e=.returned (.tuple #[.agg #[.bool b,v1,v2],.int .i64 r])∧bw w0 w'∧w.heap.size≤w'.heap.size∧(∀ k,k < w.heap.size→k≠gl→¬ okl k→w'.heap[k]?=w.heap[k]?)∧(∀ k,okl' k→okl k∨w.heap.size≤k)∧(∀ k,okl' k→k < w'.heap.size)∧Kd.FK k33 w' (fun k=>w.heap.size≤k∧¬ okl' k) (⟨b,p,q⟩:S33) [.bool b,v1,v2]∧(r=0→w'.heap[gl]?=some (.cells #[u'] 22 (0,0))∧Kd.N k33 33 w' w0.heap.size okl' u' s'))
theorem FK_own {w:World} {base:Nat} (b:Bool) {a6 a7:Option Addr} {a8 c2:Nat} {p q:List Int} {okp okq:Nat→Prop} (a9:Kd.R (Kd.int .i64) 3 w base okp (.slice a6 p.length a8) p) (b4:Kd.R (Kd.int .i64) 3 w base okq (.slice a7 q.length c2) q):Kd.FK k33 w (fun k=>some k=(.slice a6 p.length a8:Value).ownBlock∨some k=(.slice a7 q.length c2:Value).ownBlock) (⟨b,p,q⟩:S33) [.bool b,.slice a6 p.length a8,.slice a7 q.length c2] :=
 k33_mkF _ _ (⟨b,p,q⟩:S33) (Kd.R_reads' a9).2.1 (Kd.V_F (base:=base) (Kd.R_V (Kd.R_mono (Kd.R_tight rfl a9) (fun k hk=>.inl hk)))) (Kd.R_reads' b4).2.1 (Kd.V_F (base:=base) (Kd.R_V (Kd.R_mono (Kd.R_tight rfl b4) (fun k hk=>.inr hk))))
theorem Izw.calls (k:Nat) (cp mass:Int) (gm gl gt gv:Nat) (A:Option Addr) (c:Nat) (l:List S33) (lb:Bool) (l1 l2:List Int) (L1:Option Addr) (cL1:Nat) (L2:Option Addr) (cL2:Nat) (j:Int) (u:Value) (ls:List S33) (okl:Nat→Prop) (B1:Nat) (s':List S33) (b:Bool) (p q:List Int) (r:Int) (w0 w:World)
  (hB0:bw w0 w) (hm:w.heap[gm]?=some (.cells #[.int .i64 mass] 3 (0,0))) (hl:w.heap[gl]?=some (.cells #[u] 22 (0,0))) (ht:w.heap[gt]?=some (.cells #[.int .i64 cp,.slice A l.length c] 24 (0,0))) (hv:w.heap[gv]?=some (.cells #[.bool lb,.slice L1 l1.length cL1,.slice L2 l2.length cL2] 33 (0,0)))
  (hgl0:w0.heap.size≤gl) (a6:w0.heap.size≤B1∧B1≤w.heap.size∧gm < B1∧gl < B1∧gt < B1∧gv < B1) (hC:Kd.C k33 w0 A l.length l) (a7:l1.length≤cL1) (hC1:cI w L1 l1) (a8:l2.length≤cL2) (hC2:cI w L2 l2)
  (hN:Kd.N k33 33 w w0.heap.size okl u ls) (hok:∀ k,okl k→B1≤k∧k < w.heap.size) (hj0:0≤j) (hjl:j < (l.length:Int)) (h:draw_g k mass lb l1 l2 l j ls=some (s',(⟨b,p,q⟩:S33),r)) :
  Calls Try.prog 49 #[.int .i64 j,.pointer (some ⟨gm,0,none⟩),.pointer (some ⟨gl,0,none⟩),.pointer (some ⟨gt,0,none⟩),.pointer (some ⟨gv,0,none⟩)] w fun e w'=>DrawP w0 w gl okl b p q r s' e w':=by
 have errE:∀ (wz:World) (e:Int),e≠0→bw w wz→DrawP w0 w gl okl false [] [] e s' (.returned (.tuple #[.agg #[.bool false,.slice none 0 0,.slice none 0 0],.int .i64 e])) wz:=fun wz e he hb=>⟨⟨_,_,u,okl,rfl,below_then hB0 hB0.size hb,hb.size,fun k hk _ _=>hb.block k hk,fun k hk=>.inl hk,fun k hk=>Nat.lt_of_lt_of_le (hok k hk).2 hb.size,FK_zero _ _,fun h=>absurd h he⟩⟩
 have ERR:=aM errE;clear errE;have a9:=aM hB0;have HLB:=aM hl;have HVB:=aM hv;have HG:=aM a6;have HCL:=aM (And.intro a7 (And.intro hC1 (And.intro a8 hC2)));have HN:=aM hN;have HOK:=aM hok;have HGL:=aM hgl0;have HB:=aM (Below.refl w.heap.size w);obtain⟨ad,b4,b5,b6,c2,ead,b7,b8,b9,d6,hD1,d7,hD2⟩:=at_T33 hC j hj0 hjl;subst ead;have had:=World.block_lt_of_cell? _ _ b7;have HE:=aM (And.intro d6 (And.intro (Kd.C_below hD1 hB0) (And.intro d7 (Kd.C_below hD2 hB0))));have hS:∀ W:World,(∀ k,k < B1→W.heap[k]?=w.heap[k]?)→W.cell? ⟨gl,0,none⟩=some u∧W.cell? ⟨gt,1,none⟩=some (.slice (some ad) l.length c)∧W.cell? ⟨gm,0,none⟩=some (.int .i64 mass)∧W.cell? (ad.add (j.toNat * 3))=some (.bool (rd_T33 l j).f0)∧W.cell? ⟨(ad.add (j.toNat * 3)).block,(ad.add (j.toNat * 3)).off+1,none⟩=some (.slice b4 (rd_T33 l j).f1.length b5)∧W.cell? ⟨(ad.add (j.toNat * 3)).block,(ad.add (j.toNat * 3)).off+2,none⟩=some (.slice b6 (rd_T33 l j).f2.length c2):=fun W hW =>
  ⟨cell_eq (hW gl a6.2.2.2.1) ((blk_cell hl 0).trans rfl),cell_eq (hW gt a6.2.2.2.2.1) ((blk_cell ht 1).trans rfl),cell_eq (hW gm a6.2.2.1) ((blk_cell hm 0).trans rfl),cell_eq (hW _ (Nat.lt_of_lt_of_le had a6.1)) (pw_cell_below hB0 b7),cell_eq (p:=⟨_,_,none⟩) (hW _ (Nat.lt_of_lt_of_le had a6.1)) (pw_cell_below hB0 b8),cell_eq (p:=⟨_,_,none⟩) (hW _ (Nat.lt_of_lt_of_le had a6.1)) (pw_cell_below hB0 b9)⟩
 have HS:=aM hS;have hlo:∀ W,bw w W→∀ k,k < B1→W.heap[k]?=w.heap[k]?:=fun W hW k hk=>hW.block k (Nat.lt_of_lt_of_le hk a6.2.1)
 have HLO:=aM hlo;have pT:=eq_true hj0;have qT:=eq_true hjl;unfold draw_g at h;by_cases hln:ls.length≤1000
 ·rw[if_pos hln] at h;have HLN:=aM (show(ls.length+1) * 56≤140737488355328 by omega)
  have H:=aM h;clear h hln hB0 hl hv ht hm a6 a7 hC1 a8 hC2 hN hok hgl0 b7 b8 b9 d6 hD1 d7 hD2 had hS hlo hC hjl hj0;go_enter Try.func49,Try.ntmps49
  go_upto_region 1 with (first|((with_reducible refine gd 6 rfl ?_);refine bz 33 ?_;intro d8 hg d9 e6 hb;have G6:=gA w hg;replace HB:=bB hb;clear hb hg))
  have e7:=HS.out _ (HLO.out _ HB.out);obtain⟨e8,e9,f4,f5,f6,f7⟩:=e7;by_cases hz:mass=0
  ·subst hz;have h:=H.out;simp only[if_true] at h;rw[Option.bind_eq_some_iff] at h;obtain⟨⟨f8,f9,g4⟩,hcp,h⟩:=h;rw[Option.bind_eq_some_iff] at h;obtain⟨⟨g5,g6,g7⟩,hnu,h⟩:=h;injection h with h
   injection h with g8 h
   injection h with g9 j3
   injection g9 with j4 j5 j6
   simp only at g8 j3 j4 j5 j6;subst g8 j3 j4 j5 j6;have CP:=aM hcp;have NU:=aM hnu;clear hcp hnu H;go_upto_region 2 with (fail)
   clear e8 e9 f4 f5 f6 f7;have HBd:=aM HB.out.drew;have j7:=aM (blk_drew e6.out);refine start_ (n:=10) (S:=fun W=>W.cell? ⟨gl,0,none⟩=some u∧W.cell? ⟨gt,1,none⟩=some (.slice (some ad) l.length c)∧W.cell? ⟨gm,0,none⟩=some (.int .i64 0)∧W.cell? (ad.add (j.toNat * 3))=some (.bool (rd_T33 l j).f0)∧W.cell? ⟨(ad.add (j.toNat * 3)).block,(ad.add (j.toNat * 3)).off+1,none⟩=some (.slice b4 (rd_T33 l j).f1.length b5)∧W.cell? ⟨(ad.add (j.toNat * 3)).block,(ad.add (j.toNat * 3)).off+2,none⟩=some (.slice b6 (rd_T33 l j).f2.length c2)) (ds:=[9]) (bA 10 0) (by kernel_rfl) rfl rfl (HS.out _ (HLO.out _ HBd.out)) (fun hHeld=>?_)
   generalize d9.drew=j8 at HBd j7 hHeld ⊢;clear HB e6;refine tV 0 14 (bA 10 1) hHeld ?_;refine pV 1 15 (bA 10 3) ?_;refine tV 2 16 (bA 10 7) hHeld ?_;refine pV 3 17 (bA 10 15) ?_;refine pV 4 18 (bA 10 31) ?_;refine tV 5 19 (bA 10 63) hHeld ?_;refine one_ (i:=6) (N:=some 20) (bA 10 127) rfl rfl (by kernel_rfl) (by decide) (fun K hK=>?_)
   refine goes_ Try.func50 (by kernel_rfl) rfl #[.agg #[.bool (rd_T33 l j).f0,.slice b4 (rd_T33 l j).f1.length b5,.slice b6 (rd_T33 l j).f2.length c2]] (by rfl) rfl rfl mA ?_
   refine(Hzm.calls _ b4 b5 _ b6 c2 _ f8 f9 g4 j8 (Kd.C_below HE.out.2.1 HBd.out) HE.out.1 (Kd.C_below HE.out.2.2.2 HBd.out) HE.out.2.2.1 CP.out).mono ?_;rintro e j9 ⟨l5,l6,rfl,l7,l8,hb⟩;refine⟨_,rfl,?_⟩;have l9:=aM (below_then HBd.out HBd.out.size hb);have L6:=aM (show d8 < j8.heap.size from blk_lt j7.out)
   have m0:=aM (blk_below j7.out hb);have HS2:=aM HBd.out.size;have m4:=aM l7;have m5:=aM l8;clear l7 l8 hb j7 HBd;obtain⟨m6,m7,rfl⟩:=Kd.R_slice m4.out;obtain⟨m8,m9,rfl⟩:=Kd.R_slice m5.out;refine hK.out _ _ (HS.out _ (HLO.out _ l9.out)) (fun hHeld=>?_)
   clear hK K;refine nm 20 ?_;refine one_ (i:=7) (N:=some 21) (bA 10 255) rfl rfl (by kernel_rfl) (by decide) (fun K hK=>?_)
   refine value_ (w1:=?_) (v:=?_) (by rfl) rfl ?_ ?_
   rotate_left 2
   ·go_simp
    constructor
    ·rfl
    ·rfl
   refine hK.out _ _ (HS.out _ (HLO.out _ (below_alloc l9.out _))) (fun hHeld=>?_)
   clear hK K;refine nm 21 ?_;refine one_ (i:=8) (N:=some 22) (bA 10 511) rfl rfl (by kernel_rfl) (by decide) (fun K hK=>?_)
   have okA:∀ k,(okl k∨(w.heap.size≤k∧k≠d8))→B1≤k:=fun k hk=>hk.elim (fun h=>(HOK.out k h).1) (fun h=>Nat.le_trans HG.out.2.1 h.1)
   have OKA:=aM okA;clear okA;refine Kd.N_append_step k33 (w0:=w0) w0.heap.size (by rfl) (.tmp 14) (.tmp 21) 22 33 (.agg #[(.bool false),(.slice none 0 0),(.slice none 0 0)]) 56 rfl Try.underlying22 info33 rfl (by decide) (by omega) u ls (⟨f8,f9,g4⟩:S33) [.bool f8,.slice m6 f9.length m7,.slice m8 g4.length m9] (fun k=>okl k∨(w.heap.size≤k∧k≠d8)) (fun k=>(okl k∨(w.heap.size≤k∧k≠d8))∧some k≠u.ownBlock) rfl rfl ?aP (fun _ hk=>hk) ?aF ?aO ?aB ?aS ?aL ?_
   (case aP=>exact FK_of_R m4.out m5.out (fun k hk _=>⟨.inr ⟨Nat.le_trans HS2.out hk,fun he=>absurd hk (Nat.not_le.2 (by rw[he];exact L6.out))⟩,fun he=>absurd (Kd.N_lt HN.out k he.symm) (Nat.not_lt.2 (Nat.le_trans HS2.out hk))⟩))
   (case aF=>exact fun k hk=>.inr ⟨Nat.le_trans l9.out.size hk,fun he=>absurd (blk_lt m0.out) (by rw[← he];exact Nat.not_lt.2 hk)⟩)
   (case aO=>exact Kd.N_mono (Kd.N_below HN.out l9.out) (fun k hk=>.inl hk))
   (case aB=>exact below_then a9.out a9.out.size l9.out)
   (case aS=>exact Nat.le_trans a9.out.size l9.out.size)
   (case aL=>exact HLN.out)
   intro n0 n7 ho hb hg hat;obtain⟨ys,hys⟩:∃ y_:List S33,y_=ls ++ [(⟨f8,f9,g4⟩:S33)]:=⟨_,rfl⟩;rw[← hys] at ho;have YS:=aM hys;clear hys;have HLO4:=aM (show ∀ k,k < B1→n7.heap[k]?=w.heap[k]? from fun k hk=>(hg.block k (Nat.lt_of_lt_of_le (Nat.lt_of_lt_of_le hk HG.out.2.1) l9.out.size) (fun he=>absurd (HOK.out k (HN.out.1 k he.symm)).1 (Nat.not_le.2 hk))).trans (HLO.out _ l9.out k hk))
   have n8:=aM (show ∀ k,k < w.heap.size→¬ okl k→n7.heap[k]?=w.heap[k]? from fun k hk hn=>(hg.block k (Nat.lt_of_lt_of_le hk l9.out.size) (fun he=>hn (HN.out.1 k he.symm))).trans (l9.out.block k hk))
   have n9:=aM ((hg.block d8 (blk_lt m0.out) (fun he=>absurd (Kd.N_lt HN.out _ he.symm) (Nat.not_lt.2 G6.out))).trans m0.out)
   have o0:=aM ho;have o8:=aM hb;have HS4:=aM (Nat.le_trans l9.out.size hg.size);clear ho hb hg hat m4 m5 l9 m0 HS2 L6;obtain⟨o9,p0,rfl⟩:=Kd.N_slice o0.out;refine hK.out _ _ (HS.out _ HLO4.out) (fun hHeld=>?_)
   clear hK K;refine nm 22 ?_;refine last_ (i:=9) (N:=none) (bA 10 1023) rfl rfl (by kernel_rfl) (by decide) (fun K hK=>?_)
   have BL4:=aM ((HLO4.out gl HG.out.2.2.2.1).trans HLB.out);obtain⟨p4,p7⟩:=bk1 BL4;refine skip_ (w1:=?_) (by rfl) rfl ?_ ?_
   rotate_left
   ·go_simp
    rfl
   refine hK.out _ _ ?_;clear hK K p4 p7;refine done_ (by kernel_rfl) ?_
   have BL5:=aM (blk_put BL4.out 0 (.slice o9 ys.length p0) rfl);have p9:=aM (Kd.N_far (p:=⟨gl,0,none⟩) o0.out (fun k hk he=>absurd (OKA.out k hk) (by rw[he];exact Nat.not_le.2 HG.out.2.2.2.1)) (.slice o9 ys.length p0))
   have r5:=aM (blk_far (p:=⟨gl,0,none⟩) n9.out (fun he=>absurd G6.out (by rw[he];exact Nat.not_le.2 (Nat.lt_of_lt_of_le HG.out.2.2.2.1 HG.out.2.1))) (.slice o9 ys.length p0))
   have r6:=aM (o8.out.setCell (p:=⟨gl,0,none⟩) HGL.out (.slice o9 ys.length p0));have r7:=aM (show ∀ k,k < w.heap.size→k≠gl→¬ okl k→(n7.setCell ⟨gl,0,none⟩ (.slice o9 ys.length p0)).heap[k]?=w.heap[k]? from fun k hk hne hn=>(Below.heap_setCell n7 ⟨gl,0,none⟩ (.slice o9 ys.length p0) k hne).trans (n8.out k hk hn))
   have HS5:=aM (show w.heap.size≤(n7.setCell ⟨gl,0,none⟩ (.slice o9 ys.length p0)).heap.size by simpa using HS4.out)
   clear n9 o8 o0 n8 HS4 HLO4 BL4 hHeld;generalize n7.setCell ⟨gl,0,none⟩ (.slice o9 ys.length p0)=r8 at BL5 p9 r5 r6 r7 HS5 ⊢;go_wp2_with (first|((with_reducible refine gate_callee (f:=34) rfl ?_);refine goesL_ (some 23) rfl rfl Try.func34 (by kernel_rfl) rfl #[.int .i64 0] rfl (by first|exact mA|(simp [Act.eval];done)) ?_;refine(Dzm.calls k 0 g5 g6 g7 _ NU.out).mono ?_;rintro e r9 ⟨z1,z2,rfl,l7,l8,hb⟩;refine⟨_,rfl,?_⟩;have t4:=aM hb;have L5:=aM (show d8 < r8.heap.size from blk_lt r5.out);have t5:=aM (blk_below r5.out hb);have HZ1:=aM l7;have HZ2:=aM l8;clear l7 l8 hb r5;obtain⟨Bo1,do1,t6⟩:=Kd.R_slice HZ1.out;subst t6;obtain⟨Bo2,do2,t7⟩:=Kd.R_slice HZ2.out;subst t7;obtain⟨p4,t8,t9,p7,z3,z4⟩:=bk3 t5))
   refine rC d8 33 #[.bool g5,.slice Bo1 g6.length do1,.slice Bo2 g7.length do2] (blk_put (blk_put (blk_put t5.out 0 (.bool g5) rfl) 1 (.slice Bo1 g6.length do1) rfl) 2 (.slice Bo2 g7.length do2) rfl) Try.underlying33 ?_
   have far3:∀ k,k≠d8→(((r9.setCell ⟨d8,0,none⟩ (.bool g5)).setCell ⟨d8,1,none⟩ (.slice Bo1 g6.length do1)).setCell ⟨d8,2,none⟩ (.slice Bo2 g7.length do2)).heap[k]?=r9.heap[k]?:=fun k hk=>(Below.heap_setCell _ ⟨d8,2,none⟩ _ k hk).trans ((Below.heap_setCell _ ⟨d8,1,none⟩ _ k hk).trans (Below.heap_setCell _ ⟨d8,0,none⟩ _ k hk))
   have hsz:(((r9.setCell ⟨d8,0,none⟩ (.bool g5)).setCell ⟨d8,1,none⟩ (.slice Bo1 g6.length do1)).setCell ⟨d8,2,none⟩ (.slice Bo2 g7.length do2)).heap.size=r9.heap.size:=by simp
   have z5:∀ k,k < w.heap.size→k≠d8:=fun k hk he=>absurd G6.out (by rw[← he];exact Nat.not_le.2 hk)
   have z6:=Nat.le_trans a9.out.size G6.out;refine⟨⟨_,_,.slice o9 ys.length p0,fun k=>(okl k∨(w.heap.size≤k∧k≠d8))∧k < r8.heap.size,rfl,?_,?_,?_,?_,?_,?_,?_⟩⟩
   ·exact((((below_then r6.out r6.out.size t4.out).setCell (p:=⟨d8,0,none⟩) z6 _).setCell (p:=⟨d8,1,none⟩) z6 _).setCell (p:=⟨d8,2,none⟩) z6 _)
   ·rw[hsz];exact Nat.le_trans HS5.out t4.out.size
   ·exact fun k hk hne hn=>(far3 k (z5 k hk)).trans ((t4.out.block k (Nat.lt_of_lt_of_le hk HS5.out)).trans (r7.out k hk hne hn))
   ·exact fun k hk=>hk.1.elim .inl (fun h=>.inr h.1)
   ·exact fun k hk=>by rw[hsz];exact Nat.lt_of_lt_of_le hk.2 t4.out.size
   ·have hf:∀ k,r8.heap.size≤k→k≠d8:=fun k hk he=>absurd L5.out (by rw[← he];exact Nat.not_lt.2 hk)
    exact Kd.FK_mono (Kd.FK_step (FK_of_R (ok:=fun k=>r8.heap.size≤k) HZ1.out HZ2.out (fun k hk _=>hk)) (fun k hk _=>far3 k (hf k hk))) (fun k hk=>⟨Nat.le_trans HS5.out hk,fun h=>absurd h.2 (Nat.not_lt.2 hk)⟩)
   ·intro _;refine⟨(far3 gl (z5 gl (blk_lt HLB.out))).trans ((t4.out.block gl (blk_lt BL5.out)).trans BL5.out),?_⟩;rw[← YS.out];exact Kd.N_step (Kd.N_below (Kd.N_bound p9.out) t4.out) (fun k hk _=>far3 k (hk.1.elim (fun h=>z5 k (HOK.out k h).2) (fun h=>h.2)))
  ·have hz2:(mass == 0)=false:=beq_eq_false_iff_ne.mpr hz;have h:=H.out;simp only[if_neg hz] at h;rw[Option.bind_eq_some_iff] at h;obtain⟨⟨z7,z8,z9⟩,hnu,h⟩:=h;rw[Option.bind_eq_some_iff] at h;obtain⟨⟨B0,B5,B9,C0⟩,hmu,h⟩:=h;have NU:=aM hnu;have MU:=aM hmu;replace H:=aM h;clear hnu hmu h;go_upto_region 4 with (fail)
   clear e8 e9 f4 f5 f6 f7;go_cut [8,9] (fun C1 C2 wc=>∃ (C3:Nat) (C4 C6:Option Addr) (f1 f2:Nat),C1=.pointer (some ⟨C3,0,none⟩)∧C2=.int .i64 C0∧Aside0 (wc.heap[C3]?=some (.cells #[.bool B0,.slice C4 B5.length f1,.slice C6 B9.length f2] 33 (0,0)))∧Aside0 (rI wc w (fun _=>True) (.slice C4 B5.length f1) B5)∧Aside0 (rI wc w (fun _=>True) (.slice C6 B9.length f2) B9)∧Aside0 (wc.heap[d8]?=some (.cells #[.bool false,.slice none 0 0,.slice none 0 0] 33 (0,0)))∧Aside0 (d8≠C3)∧Aside0 (w.heap.size≤C3)∧Aside0 (bw w wc))
   case first =>
    have HB_w2:=aM HB.out.drew;have C7:=aM (blk_drew e6.out);refine start_ (n:=14) (S:=fun W=>W.cell? ⟨gl,0,none⟩=some u∧W.cell? ⟨gt,1,none⟩=some (.slice (some ad) l.length c)∧W.cell? ⟨gm,0,none⟩=some (.int .i64 mass)∧W.cell? (ad.add (j.toNat * 3))=some (.bool (rd_T33 l j).f0)∧W.cell? ⟨(ad.add (j.toNat * 3)).block,(ad.add (j.toNat * 3)).off+1,none⟩=some (.slice b4 (rd_T33 l j).f1.length b5)∧W.cell? ⟨(ad.add (j.toNat * 3)).block,(ad.add (j.toNat * 3)).off+2,none⟩=some (.slice b6 (rd_T33 l j).f2.length c2)) (ds:=[]) (bA 14 0) (by kernel_rfl) rfl rfl (HS.out _ (HLO.out _ HB_w2.out)) (fun hHeld=>?_)
    generalize d9.drew=j8 at HB_w2 C7 hHeld ⊢;clear HB e6;refine pV 0 25 (bA 14 1) ?_;refine tV 1 26 (bA 14 3) hHeld ?_;refine pV 2 27 (bA 14 7) ?_;refine pV 3 28 (bA 14 15) ?_;refine tV 4 29 (bA 14 31) hHeld ?_;refine tV 5 30 (bA 14 63) hHeld ?_;refine two_ (i:=6) (j:=11) (Ni:=some 31) (Nj:=some 8) (bA 14 127) (bA 14 2111) rfl rfl rfl rfl (by kernel_rfl) (by decide) (by decide) (fun K hK=>?_) (fun K hK=>?_)
    ·refine goes_ Try.func34 (by kernel_rfl) rfl #[.int .i64 mass] (by rfl) rfl rfl mA ?_
     refine(Dzm.calls k mass z7 z8 z9 _ NU.out).mono ?_;rintro e C8 ⟨l5,l6,rfl,l7,l8,hb⟩;refine⟨_,rfl,?_⟩;obtain⟨M1,d1,t6⟩:=Kd.R_slice l7;subst t6;obtain⟨M2,d2,t7⟩:=Kd.R_slice l8;subst t7;have HB_w25:=aM (below_then HB_w2.out HB_w2.out.size hb);have C9:=aM (blk_below C7.out hb);have HM_w25:=aM (And.intro (Kd.R_reads' l7).2.1 (And.intro (Kd.R_reads' l7).2.2 (And.intro (Kd.R_reads' l8).2.1 (Kd.R_reads' l8).2.2)));clear l7 l8 hb;refine hK.out _ _ (HS.out _ (HLO.out _ HB_w25.out)) (fun hHeld=>?_)
     clear hK K;refine nm 31 ?_;refine two_ (i:=7) (j:=11) (Ni:=some 32) (Nj:=some 8) (bA 14 255) (bA 14 2175) rfl rfl rfl rfl (by kernel_rfl) (by decide) (by decide) (fun K hK=>?_) (fun K hK=>?_)
     ·refine goes_ Try.func51 (by kernel_rfl) rfl #[.agg #[.bool (rd_T33 l j).f0,.slice b4 (rd_T33 l j).f1.length b5,.slice b6 (rd_T33 l j).f2.length c2],.agg #[.bool z7,.slice M1 z8.length d1,.slice M2 z9.length d2]] (by rfl) rfl rfl mA ?_
      refine(Fzj.calls k _ b4 b5 _ b6 c2 _ _ M1 d1 _ M2 d2 _ B0 B5 B9 C0 _ (Kd.C_below HE.out.2.1 HB_w25.out) HE.out.1 (Kd.C_below HE.out.2.2.2 HB_w25.out) HE.out.2.2.1 HM_w25.out.2.1 HM_w25.out.1 HM_w25.out.2.2.2 HM_w25.out.2.2.1 MU.out).mono ?_;rintro e D2 ⟨l5,l6,rfl,l7,l8,hb⟩;refine⟨_,rfl,?_⟩;obtain⟨C4,f1,t6⟩:=Kd.R_slice l7;subst t6;obtain⟨C6,f2,t7⟩:=Kd.R_slice l8;subst t7;have HB_w26:=aM (below_then HB_w25.out HB_w25.out.size hb);have D3:=aM (blk_below C9.out hb);have HM_w26:=aM (And.intro HM_w25.out.1 (And.intro (Kd.C_below HM_w25.out.2.1 hb) (And.intro HM_w25.out.2.2.1 (Kd.C_below HM_w25.out.2.2.2 hb))));have D4:=aM (Kd.R_mono (ok':=fun _=>True) (Kd.R_lower l7 HB_w25.out.size) (fun _ _=>trivial))
      have D5:=aM (Kd.R_mono (ok':=fun _=>True) (Kd.R_lower l8 HB_w25.out.size) (fun _ _=>trivial))
      clear l7 l8 hb;refine hK.out _ _ (HS.out _ (HLO.out _ HB_w26.out)) (fun hHeld=>?_)
      clear hK K;refine nm 32 ?_;refine pV 8 24 (bA 14 511) ?_;refine pV 9 33 (bA 14 1023) ?_;refine pV 10 34 (bA 14 2047) ?_;refine one_ (i:=11) (N:=some 8) (bA 14 4095) rfl rfl (by kernel_rfl) (by decide) (fun K hK=>?_)
      refine box_step ?hg (N:=8) ?hd (cs:=#[.bool false,.slice none 0 0,.slice none 0 0]) (t:=33) ?hr ?_;(case hd=>rfl);(case hg=>rfl);(case hr=>first|(go_simp;done)|(go_simp;rfl))
      intro gbn hg D6 hbox hb;have Gn:=aM (show w.heap.size≤gbn by rw[hg];exact HB_w26.out.size)
      have Nn:=aM (show d8≠gbn by rw[hg];exact Nat.ne_of_lt (blk_lt D3.out))
      clear hg;have HB_w27:=aM (below_then HB_w26.out HB_w26.out.size hb);have D7:=aM (blk_below D3.out hb);have HM_w27:=aM (And.intro HM_w26.out.1 (And.intro (Kd.C_below HM_w26.out.2.1 hb) (And.intro HM_w26.out.2.2.1 (Kd.C_below HM_w26.out.2.2.2 hb))));have D8:=aM (Kd.R_below D4.out hb);have D9:=aM (Kd.R_below D5.out hb);have BKn_w27:=aM hbox;clear hbox hb;refine hK.out _ _ (HS.out _ (HLO.out _ HB_w27.out)) (fun hHeld=>?_)
      clear hK K;refine nm 8 ?_;refine one_ (i:=12) (N:=none) (bA 14 8191) rfl rfl (by kernel_rfl) (by decide) (fun K hK=>?_)
      obtain⟨p4,t8,t9,p7,z3,z4⟩:=bk3 BKn_w27;refine skip_ (w1:=?_) (by rfl) rfl ?_ ?_
      rotate_left
      ·go_simp
       rfl
      have HBz:=aM (((HB_w27.out.setCell (p:=⟨gbn,0,none⟩) Gn.out (.bool B0)).setCell (p:=⟨gbn,1,none⟩) Gn.out (.slice C4 B5.length f1)).setCell (p:=⟨gbn,2,none⟩) Gn.out (.slice C6 B9.length f2));have fr:∀ (v:Value) (xs:List Int) (base:Nat),Kd.R (Kd.int .i64) 3 D6 base (fun _=>True) v xs→Kd.R (Kd.int .i64) 3 (((D6.setCell ⟨gbn,0,none⟩ (.bool B0)).setCell ⟨gbn,1,none⟩ (.slice C4 B5.length f1)).setCell ⟨gbn,2,none⟩ (.slice C6 B9.length f2)) base (fun _=>True) v xs:=fun v xs base hv=>Kd.R_mono (Kd.R_far (p:=⟨gbn,2,none⟩) (Kd.R_far (p:=⟨gbn,1,none⟩) (Kd.R_far (p:=⟨gbn,0,none⟩) (Kd.R_types hv BKn_w27.out (by decide)) (fun _ hk=>hk.2) (.bool B0)) (fun _ hk=>hk.2) (.slice C4 B5.length f1)) (fun _ hk=>hk.2) (.slice C6 B9.length f2)) (fun _ _=>trivial)
      have HZ1:=aM (fr _ _ _ D8.out);have HZ2:=aM (fr _ _ _ D9.out);have E0:=aM (blk_far (p:=⟨gbn,2,none⟩) (blk_far (p:=⟨gbn,1,none⟩) (blk_far (p:=⟨gbn,0,none⟩) D7.out Nn.out (.bool B0)) Nn.out (.slice C4 B5.length f1)) Nn.out (.slice C6 B9.length f2));have BKz:=aM (blk_put (blk_put (blk_put BKn_w27.out 0 (.bool B0) rfl) 1 (.slice C4 B5.length f1) rfl) 2 (.slice C6 B9.length f2) rfl);refine hK.out _ _ (HS.out _ (HLO.out _ HBz.out)) (fun hHeld=>?_)
      clear hK K;refine pV 13 9 (bA 14 16383) ?_;refine done_ (by kernel_rfl) ?_
      go_wp2
      go_meet
      case rel=>exact⟨gbn,C4,C6,f1,f2,rfl,rfl,BKz,HZ1,HZ2,E0,Nn,Gn,HBz⟩
     ·refine box_step ?hg (N:=8) ?hd (cs:=#[.bool false,.slice none 0 0,.slice none 0 0]) (t:=33) ?hr ?_;(case hd=>rfl);(case hg=>rfl);(case hr=>first|(go_simp;done)|(go_simp;rfl))
      intro gbn hg E1 hbox hb;have Gn:=aM (show w.heap.size≤gbn by rw[hg];exact HB_w25.out.size)
      have Nn:=aM (show d8≠gbn by rw[hg];exact Nat.ne_of_lt (blk_lt C9.out))
      clear hg;have HB_w28:=aM (below_then HB_w25.out HB_w25.out.size hb);have E2:=aM (blk_below C9.out hb);have HM_w28:=aM (And.intro HM_w25.out.1 (And.intro (Kd.C_below HM_w25.out.2.1 hb) (And.intro HM_w25.out.2.2.1 (Kd.C_below HM_w25.out.2.2.2 hb))));have BKn_w28:=aM hbox;clear hbox hb;refine hK.out _ _ (HS.out _ (HLO.out _ HB_w28.out)) (fun hHeld=>?_)
      clear hK K;refine nm 8 ?_;refine one_ (i:=7) (N:=some 32) (bA 14 2303) rfl rfl (by kernel_rfl) (by decide) (fun K hK=>?_)
      refine goes_ Try.func51 (by kernel_rfl) rfl #[.agg #[.bool (rd_T33 l j).f0,.slice b4 (rd_T33 l j).f1.length b5,.slice b6 (rd_T33 l j).f2.length c2],.agg #[.bool z7,.slice M1 z8.length d1,.slice M2 z9.length d2]] (by rfl) rfl rfl mA ?_
      refine(Fzj.calls k _ b4 b5 _ b6 c2 _ _ M1 d1 _ M2 d2 _ B0 B5 B9 C0 _ (Kd.C_below HE.out.2.1 HB_w28.out) HE.out.1 (Kd.C_below HE.out.2.2.2 HB_w28.out) HE.out.2.2.1 HM_w28.out.2.1 HM_w28.out.1 HM_w28.out.2.2.2 HM_w28.out.2.2.1 MU.out).mono ?_;rintro e E3 ⟨l5,l6,rfl,l7,l8,hb⟩;refine⟨_,rfl,?_⟩;obtain⟨C4,f1,t6⟩:=Kd.R_slice l7;subst t6;obtain⟨C6,f2,t7⟩:=Kd.R_slice l8;subst t7;have HB_w29:=aM (below_then HB_w28.out HB_w28.out.size hb);have E4:=aM (blk_below E2.out hb);have BKn_w29:=aM (blk_below BKn_w28.out hb);have HM_w29:=aM (And.intro HM_w28.out.1 (And.intro (Kd.C_below HM_w28.out.2.1 hb) (And.intro HM_w28.out.2.2.1 (Kd.C_below HM_w28.out.2.2.2 hb))));have E5:=aM (Kd.R_mono (ok':=fun _=>True) (Kd.R_lower l7 HB_w28.out.size) (fun _ _=>trivial))
      have E6:=aM (Kd.R_mono (ok':=fun _=>True) (Kd.R_lower l8 HB_w28.out.size) (fun _ _=>trivial))
      clear l7 l8 hb;refine hK.out _ _ (HS.out _ (HLO.out _ HB_w29.out)) (fun hHeld=>?_)
      clear hK K;refine nm 32 ?_;refine pV 8 24 (bA 14 2559) ?_;refine pV 9 33 (bA 14 3071) ?_;refine pV 10 34 (bA 14 4095) ?_;refine one_ (i:=12) (N:=none) (bA 14 8191) rfl rfl (by kernel_rfl) (by decide) (fun K hK=>?_)
      obtain⟨p4,t8,t9,p7,z3,z4⟩:=bk3 BKn_w29;refine skip_ (w1:=?_) (by rfl) rfl ?_ ?_
      rotate_left
      ·go_simp
       rfl
      have HBz:=aM (((HB_w29.out.setCell (p:=⟨gbn,0,none⟩) Gn.out (.bool B0)).setCell (p:=⟨gbn,1,none⟩) Gn.out (.slice C4 B5.length f1)).setCell (p:=⟨gbn,2,none⟩) Gn.out (.slice C6 B9.length f2));have fr:∀ (v:Value) (xs:List Int) (base:Nat),Kd.R (Kd.int .i64) 3 E3 base (fun _=>True) v xs→Kd.R (Kd.int .i64) 3 (((E3.setCell ⟨gbn,0,none⟩ (.bool B0)).setCell ⟨gbn,1,none⟩ (.slice C4 B5.length f1)).setCell ⟨gbn,2,none⟩ (.slice C6 B9.length f2)) base (fun _=>True) v xs:=fun v xs base hv=>Kd.R_mono (Kd.R_far (p:=⟨gbn,2,none⟩) (Kd.R_far (p:=⟨gbn,1,none⟩) (Kd.R_far (p:=⟨gbn,0,none⟩) (Kd.R_types hv BKn_w29.out (by decide)) (fun _ hk=>hk.2) (.bool B0)) (fun _ hk=>hk.2) (.slice C4 B5.length f1)) (fun _ hk=>hk.2) (.slice C6 B9.length f2)) (fun _ _=>trivial)
      have HZ1:=aM (fr _ _ _ E5.out);have HZ2:=aM (fr _ _ _ E6.out);have E0:=aM (blk_far (p:=⟨gbn,2,none⟩) (blk_far (p:=⟨gbn,1,none⟩) (blk_far (p:=⟨gbn,0,none⟩) E4.out Nn.out (.bool B0)) Nn.out (.slice C4 B5.length f1)) Nn.out (.slice C6 B9.length f2));have BKz:=aM (blk_put (blk_put (blk_put BKn_w29.out 0 (.bool B0) rfl) 1 (.slice C4 B5.length f1) rfl) 2 (.slice C6 B9.length f2) rfl);refine hK.out _ _ (HS.out _ (HLO.out _ HBz.out)) (fun hHeld=>?_)
      clear hK K;refine pV 13 9 (bA 14 16383) ?_;refine done_ (by kernel_rfl) ?_
      go_wp2
      go_meet
      case rel=>exact⟨gbn,C4,C6,f1,f2,rfl,rfl,BKz,HZ1,HZ2,E0,Nn,Gn,HBz⟩
    ·refine box_step ?hg (N:=8) ?hd (cs:=#[.bool false,.slice none 0 0,.slice none 0 0]) (t:=33) ?hr ?_;(case hd=>rfl);(case hg=>rfl);(case hr=>first|(go_simp;done)|(go_simp;rfl))
     intro gbn hg E7 hbox hb;have Gn:=aM (show w.heap.size≤gbn by rw[hg];exact HB_w2.out.size)
     have Nn:=aM (show d8≠gbn by rw[hg];exact Nat.ne_of_lt (blk_lt C7.out))
     clear hg;have HB_w30:=aM (below_then HB_w2.out HB_w2.out.size hb);have E8:=aM (blk_below C7.out hb);have BKn_w30:=aM hbox;clear hbox hb;refine hK.out _ _ (HS.out _ (HLO.out _ HB_w30.out)) (fun hHeld=>?_)
     clear hK K;refine nm 8 ?_;refine one_ (i:=6) (N:=some 31) (bA 14 2175) rfl rfl (by kernel_rfl) (by decide) (fun K hK=>?_)
     refine goes_ Try.func34 (by kernel_rfl) rfl #[.int .i64 mass] (by rfl) rfl rfl mA ?_
     refine(Dzm.calls k mass z7 z8 z9 _ NU.out).mono ?_;rintro e E9 ⟨l5,l6,rfl,l7,l8,hb⟩;refine⟨_,rfl,?_⟩;obtain⟨M1,d1,t6⟩:=Kd.R_slice l7;subst t6;obtain⟨M2,d2,t7⟩:=Kd.R_slice l8;subst t7;have HB_w31:=aM (below_then HB_w30.out HB_w30.out.size hb);have F0:=aM (blk_below E8.out hb);have BKn_w31:=aM (blk_below BKn_w30.out hb);have HM_w31:=aM (And.intro (Kd.R_reads' l7).2.1 (And.intro (Kd.R_reads' l7).2.2 (And.intro (Kd.R_reads' l8).2.1 (Kd.R_reads' l8).2.2)));clear l7 l8 hb;refine hK.out _ _ (HS.out _ (HLO.out _ HB_w31.out)) (fun hHeld=>?_)
     clear hK K;refine nm 31 ?_;refine one_ (i:=7) (N:=some 32) (bA 14 2303) rfl rfl (by kernel_rfl) (by decide) (fun K hK=>?_)
     refine goes_ Try.func51 (by kernel_rfl) rfl #[.agg #[.bool (rd_T33 l j).f0,.slice b4 (rd_T33 l j).f1.length b5,.slice b6 (rd_T33 l j).f2.length c2],.agg #[.bool z7,.slice M1 z8.length d1,.slice M2 z9.length d2]] (by rfl) rfl rfl mA ?_
     refine(Fzj.calls k _ b4 b5 _ b6 c2 _ _ M1 d1 _ M2 d2 _ B0 B5 B9 C0 _ (Kd.C_below HE.out.2.1 HB_w31.out) HE.out.1 (Kd.C_below HE.out.2.2.2 HB_w31.out) HE.out.2.2.1 HM_w31.out.2.1 HM_w31.out.1 HM_w31.out.2.2.2 HM_w31.out.2.2.1 MU.out).mono ?_;rintro e F2 ⟨l5,l6,rfl,l7,l8,hb⟩;refine⟨_,rfl,?_⟩;obtain⟨C4,f1,t6⟩:=Kd.R_slice l7;subst t6;obtain⟨C6,f2,t7⟩:=Kd.R_slice l8;subst t7;have HB_w32:=aM (below_then HB_w31.out HB_w31.out.size hb);have F3:=aM (blk_below F0.out hb);have BKn_w32:=aM (blk_below BKn_w31.out hb);have HM_w32:=aM (And.intro HM_w31.out.1 (And.intro (Kd.C_below HM_w31.out.2.1 hb) (And.intro HM_w31.out.2.2.1 (Kd.C_below HM_w31.out.2.2.2 hb))));have F4:=aM (Kd.R_mono (ok':=fun _=>True) (Kd.R_lower l7 HB_w31.out.size) (fun _ _=>trivial))
     have F5:=aM (Kd.R_mono (ok':=fun _=>True) (Kd.R_lower l8 HB_w31.out.size) (fun _ _=>trivial))
     clear l7 l8 hb;refine hK.out _ _ (HS.out _ (HLO.out _ HB_w32.out)) (fun hHeld=>?_)
     clear hK K;refine nm 32 ?_;refine pV 8 24 (bA 14 2559) ?_;refine pV 9 33 (bA 14 3071) ?_;refine pV 10 34 (bA 14 4095) ?_;refine one_ (i:=12) (N:=none) (bA 14 8191) rfl rfl (by kernel_rfl) (by decide) (fun K hK=>?_)
     obtain⟨p4,t8,t9,p7,z3,z4⟩:=bk3 BKn_w32;refine skip_ (w1:=?_) (by rfl) rfl ?_ ?_
     rotate_left
     ·go_simp
      rfl
     have HBz:=aM (((HB_w32.out.setCell (p:=⟨gbn,0,none⟩) Gn.out (.bool B0)).setCell (p:=⟨gbn,1,none⟩) Gn.out (.slice C4 B5.length f1)).setCell (p:=⟨gbn,2,none⟩) Gn.out (.slice C6 B9.length f2));have fr:∀ (v:Value) (xs:List Int) (base:Nat),Kd.R (Kd.int .i64) 3 F2 base (fun _=>True) v xs→Kd.R (Kd.int .i64) 3 (((F2.setCell ⟨gbn,0,none⟩ (.bool B0)).setCell ⟨gbn,1,none⟩ (.slice C4 B5.length f1)).setCell ⟨gbn,2,none⟩ (.slice C6 B9.length f2)) base (fun _=>True) v xs:=fun v xs base hv=>Kd.R_mono (Kd.R_far (p:=⟨gbn,2,none⟩) (Kd.R_far (p:=⟨gbn,1,none⟩) (Kd.R_far (p:=⟨gbn,0,none⟩) (Kd.R_types hv BKn_w32.out (by decide)) (fun _ hk=>hk.2) (.bool B0)) (fun _ hk=>hk.2) (.slice C4 B5.length f1)) (fun _ hk=>hk.2) (.slice C6 B9.length f2)) (fun _ _=>trivial)
     have HZ1:=aM (fr _ _ _ F4.out);have HZ2:=aM (fr _ _ _ F5.out);have E0:=aM (blk_far (p:=⟨gbn,2,none⟩) (blk_far (p:=⟨gbn,1,none⟩) (blk_far (p:=⟨gbn,0,none⟩) F3.out Nn.out (.bool B0)) Nn.out (.slice C4 B5.length f1)) Nn.out (.slice C6 B9.length f2));have BKz:=aM (blk_put (blk_put (blk_put BKn_w32.out 0 (.bool B0) rfl) 1 (.slice C4 B5.length f1) rfl) 2 (.slice C6 B9.length f2) rfl);refine hK.out _ _ (HS.out _ (HLO.out _ HBz.out)) (fun hHeld=>?_)
     clear hK K;refine pV 13 9 (bA 14 16383) ?_;refine done_ (by kernel_rfl) ?_
     go_wp2
     go_meet
     case rel=>exact⟨gbn,C4,C6,f1,f2,rfl,rfl,BKz,HZ1,HZ2,E0,Nn,Gn,HBz⟩
   case rest =>
    obtain⟨C3,C4,C6,f1,f2,rfl,rfl,F6,F7,F8,F9,N68,G8,HBc⟩:=hcut;by_cases hr:C0=0
    ·subst hr;have h:=H.out;simp only[if_true] at h;rw[Option.bind_eq_some_iff] at h;obtain⟨⟨f8,f9,g4,G5⟩,hdv,h⟩:=h;have DV:=aM hdv;replace H:=aM h;clear hdv h;have BVc:=aM ((HLO.out _ HBc.out gv HG.out.2.2.2.2.2).trans HVB.out);have HLc:=aM (And.intro (Kd.C_below HCL.out.2.1 HBc.out) (Kd.C_below HCL.out.2.2.2 HBc.out));obtain⟨p4,t8,t9,p7,z3,z4⟩:=bk3 F6;obtain⟨hdz_0,hdz_1,hdz_2,hgz_0,hgz_1,hgz_2⟩:=bk3 BVc;go_upto_region 8 with (first|((with_reducible refine gate_callee (f:=52) rfl ?_);refine goesL_ (some 42) rfl rfl Try.func52 (by kernel_rfl) rfl #[.agg #[.bool B0,.slice C4 B5.length f1,.slice C6 B9.length f2],.agg #[.bool lb,.slice L1 l1.length cL1,.slice L2 l2.length cL2]] rfl (by first|exact mA|(simp [Act.eval];done)) ?_;refine(Hzq.calls k B0 _ C4 f1 B5 _ C6 f2 B9 lb (fun k_=>k_ < wc.heap.size) L1 cL1 l1 (fun k_=>k_ < wc.heap.size) L2 cL2 l2 f8 f9 g4 G5 wc (Kd.R_V (Kd.R_tight rfl F7.out)) (Kd.R_V (Kd.R_tight rfl F8.out)) (Kd.V_mk HCL.out.1 (Kd.C_F (Kd.heap_int .i64) HLc.out.1)) (Kd.V_mk HCL.out.2.2.1 (Kd.C_F (Kd.heap_int .i64) HLc.out.2)) DV.out).mono ?_;rintro e E7 ⟨l5,l6,rfl,l7,l8,hb⟩;refine⟨_,rfl,?_⟩;obtain⟨X1,g1,t6⟩:=Kd.R_slice l7;subst t6;obtain⟨X2,g2,t7⟩:=Kd.R_slice l8;subst t7;have G9:=aM (Kd.R_mono (ok':=fun _=>True) (Kd.R_lower l7 HBc.out.size) (fun _ _=>trivial));have H5:=aM (Kd.R_mono (ok':=fun _=>True) (Kd.R_lower l8 HBc.out.size) (fun _ _=>trivial));have H6:=aM (below_then HBc.out HBc.out.size hb);have H7:=aM (blk_below F9.out hb);clear l7 l8 hb p4 t8 t9 p7 z3 z4 hdz_0 hdz_1 hdz_2 hgz_0 hgz_1 hgz_2 F7 F8 BVc HLc F6 HBc F9)|((with_reducible refine gd 10 rfl ?_);refine bz 33 ?_;intro H8 hg E9 H9 hb;have G10:=aM (show w.heap.size≤H8 by rw[hg];exact H6.out.size);have N610:=aM (show d8≠H8 by rw[hg];exact Nat.ne_of_lt (blk_lt H7.out));have I0:=aM (below_then H6.out H6.out.size hb);have I3:=aM (blk_below H7.out hb);have HY1:=aM (Kd.R_below G9.out hb);have HY2:=aM (Kd.R_below H5.out hb);clear hb hg G9 H5 H6 H7;obtain⟨p4,t8,t9,p7,z3,z4⟩:=bk3 H9))
     have fr:∀ (v:Value) (xs:List Int),rI E9 w (fun _=>True) v xs→Kd.R (Kd.int .i64) 3 (((E9.setCell ⟨H8,0,none⟩ (.bool f8)).setCell ⟨H8,1,none⟩ (.slice X1 f9.length g1)).setCell ⟨H8,2,none⟩ (.slice X2 g4.length g2)) w.heap.size (fun _=>True) v xs:=fun v xs hv=>Kd.R_mono (Kd.R_far (p:=⟨H8,2,none⟩) (Kd.R_far (p:=⟨H8,1,none⟩) (Kd.R_far (p:=⟨H8,0,none⟩) (Kd.R_types hv H9.out (by decide)) (fun _ hk=>hk.2) _) (fun _ hk=>hk.2) _) (fun _ hk=>hk.2) _) (fun _ _=>trivial)
     have G9:=aM (fr _ _ HY1.out);have H5:=aM (fr _ _ HY2.out);have I4:=aM (blk_put (blk_put (blk_put H9.out 0 (.bool f8) rfl) 1 (.slice X1 f9.length g1) rfl) 2 (.slice X2 g4.length g2) rfl);have I5:=aM (blk_far (p:=⟨H8,2,none⟩) (blk_far (p:=⟨H8,1,none⟩) (blk_far (p:=⟨H8,0,none⟩) I3.out N610.out (.bool f8)) N610.out (.slice X1 f9.length g1)) N610.out (.slice X2 g4.length g2));have I6:=aM (((I0.out.setCell (p:=⟨H8,0,none⟩) G10.out (.bool f8)).setCell (p:=⟨H8,1,none⟩) G10.out (.slice X1 f9.length g1)).setCell (p:=⟨H8,2,none⟩) G10.out (.slice X2 g4.length g2));clear fr HY1 HY2 H9 I3 I0 p4 t8 t9 p7 z3 z4;generalize (((E9.setCell { block:=H8,off:=0 } (Value.bool f8)).setCell { block:=H8,off:=1 } (Value.slice X1 f9.length g1)).setCell { block:=H8,off:=2 } (Value.slice X2 g4.length g2))=F2 at G9 H5 I4 I5 I6 ⊢;by_cases hr:G5=0
     ·subst hr;have h:=H.out;simp only[if_true] at h;rw[Option.bind_eq_some_iff] at h;obtain⟨⟨I7,I8,I9,J0⟩,hts,h⟩:=h;injection h with h
      injection h with g8 h
      injection h with g9 j3
      injection g9 with j4 j5 j6
      simp only at g8 j3 j4 j5 j6;subst g8 j3 j4 j5 j6;have TS:=aM hts;clear hts;have HXC:=aM (And.intro (Kd.R_reads' G9.out).2.1 (And.intro (Kd.R_reads' G9.out).2.2 (And.intro (Kd.R_reads' H5.out).2.1 (Kd.R_reads' H5.out).2.2)));have XF:=aM (FK_own f8 G9.out H5.out);have XO:=aM (show ∀ k,(some k=(.slice X1 f9.length g1:Value).ownBlock∨some k=(.slice X2 g4.length g2:Value).ownBlock)→w.heap.size≤k∧k < F2.heap.size∧k≠d8 from fun k hk=>hk.elim (fun h=>⟨Kd.R_base G9.out k h.symm,Kd.R_lt G9.out k h.symm,fun he=>Kd.R_ne G9.out I5.out (by decide) (he ▸ h)⟩) (fun h=>⟨Kd.R_base H5.out k h.symm,Kd.R_lt H5.out k h.symm,fun he=>Kd.R_ne H5.out I5.out (by decide) (he ▸ h)⟩))
      have hS2:∀ W:World,Below F2.heap.size F2 W→W.cell? ⟨gl,0,none⟩=some u∧W.cell? ⟨gt,1,none⟩=some (.slice (some ad) l.length c)∧W.cell? ⟨gm,0,none⟩=some (.int .i64 mass)∧W.cell? (ad.add (j.toNat * 3))=some (.bool (rd_T33 l j).f0)∧W.cell? ⟨(ad.add (j.toNat * 3)).block,(ad.add (j.toNat * 3)).off+1,none⟩=some (.slice b4 (rd_T33 l j).f1.length b5)∧W.cell? ⟨(ad.add (j.toNat * 3)).block,(ad.add (j.toNat * 3)).off+2,none⟩=some (.slice b6 (rd_T33 l j).f2.length c2)∧W.cell? ⟨H8,0,none⟩=some (.bool f8)∧W.cell? ⟨H8,1,none⟩=some (.slice X1 f9.length g1)∧W.cell? ⟨H8,2,none⟩=some (.slice X2 g4.length g2):=fun W hW=>by
       obtain⟨e8,e9,f4,f5,f6,f7⟩:=HS.out W (HLO.out W (below_then I6.out I6.out.size hW));obtain⟨J1,I7,I8,_⟩:=bk3 I4;exact⟨e8,e9,f4,f5,f6,f7,pw_cell_below hW J1,pw_cell_below hW I7,pw_cell_below hW I8⟩
      have HS2:=aM hS2;clear hS2;go_upto_region 10 with (fail)
      go_cut [11,9] (fun J2 C2 wc=>∃ (J3:Nat) (C4 C6:Option Addr) (f1 f2:Nat),J2=.pointer (some ⟨J3,0,none⟩)∧C2=.int .i64 J0∧Aside0 (wc.heap[J3]?=some (.cells #[.bool I7,.slice C4 I8.length f1,.slice C6 I9.length f2] 33 (0,0)))∧Aside0 (Kd.R (Kd.int .i64) 3 wc F2.heap.size (fun _=>True) (.slice C4 I8.length f1) I8)∧Aside0 (Kd.R (Kd.int .i64) 3 wc F2.heap.size (fun _=>True) (.slice C6 I9.length f2) I9)∧Aside0 (F2.heap.size≤J3)∧Aside0 (Below F2.heap.size F2 wc))
      case first =>
       have HB_w33:=aM (Below.refl F2.heap.size F2).drew;refine start_ (n:=13) (S:=fun W=>W.cell? ⟨gl,0,none⟩=some u∧W.cell? ⟨gt,1,none⟩=some (.slice (some ad) l.length c)∧W.cell? ⟨gm,0,none⟩=some (.int .i64 mass)∧W.cell? (ad.add (j.toNat * 3))=some (.bool (rd_T33 l j).f0)∧W.cell? ⟨(ad.add (j.toNat * 3)).block,(ad.add (j.toNat * 3)).off+1,none⟩=some (.slice b4 (rd_T33 l j).f1.length b5)∧W.cell? ⟨(ad.add (j.toNat * 3)).block,(ad.add (j.toNat * 3)).off+2,none⟩=some (.slice b6 (rd_T33 l j).f2.length c2)∧W.cell? ⟨H8,0,none⟩=some (.bool f8)∧W.cell? ⟨H8,1,none⟩=some (.slice X1 f9.length g1)∧W.cell? ⟨H8,2,none⟩=some (.slice X2 g4.length g2)) (ds:=[]) (bA 13 0) (by kernel_rfl) rfl rfl (HS2.out _ HB_w33.out) (fun hHeld=>?_)
       generalize F2.drew=J4 at HB_w33 hHeld ⊢;refine pV 0 50 (bA 13 1) ?_;refine tV 1 51 (bA 13 3) hHeld ?_;refine pV 2 52 (bA 13 7) ?_;refine pV 3 53 (bA 13 15) ?_;refine tV 4 54 (bA 13 31) hHeld ?_;refine tV 5 55 (bA 13 63) hHeld ?_;refine two_ (i:=6) (j:=10) (Ni:=some 56) (Nj:=some 11) (bA 13 127) (bA 13 1087) rfl rfl rfl rfl (by kernel_rfl) (by decide) (by decide) (fun K hK=>?_) (fun K hK=>?_)
       ·have HE_w33:=aM (below_then I6.out I6.out.size HB_w33.out);refine goes_ Try.func53 (by kernel_rfl) rfl #[.agg #[.bool (rd_T33 l j).f0,.slice b4 (rd_T33 l j).f1.length b5,.slice b6 (rd_T33 l j).f2.length c2],.agg #[.bool f8,.slice X1 f9.length g1,.slice X2 g4.length g2]] (by rfl) rfl rfl mA ?_
        refine(Gzy.calls k _ (fun k_=>k_ < w.heap.size) b4 b5 _ (fun k_=>k_ < w.heap.size) b6 c2 _ f8 (fun k_=>k_ < F2.heap.size) X1 g1 f9 (fun k_=>k_ < F2.heap.size) X2 g2 g4 I7 I8 I9 J0 _ (Kd.V_mk HE.out.1 (Kd.F_below (Kd.C_F (Kd.heap_int .i64) HE.out.2.1) HE_w33.out)) (Kd.V_mk HE.out.2.2.1 (Kd.F_below (Kd.C_F (Kd.heap_int .i64) HE.out.2.2.2) HE_w33.out)) (Kd.V_mk HXC.out.1 (Kd.F_below (Kd.C_F (Kd.heap_int .i64) HXC.out.2.1) HB_w33.out)) (Kd.V_mk HXC.out.2.2.1 (Kd.F_below (Kd.C_F (Kd.heap_int .i64) HXC.out.2.2.2) HB_w33.out)) TS.out).mono ?_
        rintro e J8 ⟨l5,l6,rfl,l7,l8,hb⟩;refine⟨_,rfl,?_⟩;obtain⟨C4,f1,t6⟩:=Kd.R_slice l7;subst t6;obtain⟨C6,f2,t7⟩:=Kd.R_slice l8;subst t7;have HB_w21:=aM (below_then HB_w33.out HB_w33.out.size hb);have J9:=aM (Kd.R_mono (ok':=fun _=>True) (Kd.R_lower l7 HB_w33.out.size) (fun _ _=>trivial))
        have K0:=aM (Kd.R_mono (ok':=fun _=>True) (Kd.R_lower l8 HB_w33.out.size) (fun _ _=>trivial))
        clear l7 l8 hb;refine hK.out _ _ (HS2.out _ HB_w21.out) (fun hHeld=>?_)
        clear hK K;refine nm 56 ?_;refine pV 7 49 (bA 13 255) ?_;refine pV 8 57 (bA 13 511) ?_;refine pV 9 58 (bA 13 1023) ?_;refine one_ (i:=10) (N:=some 11) (bA 13 2047) rfl rfl (by kernel_rfl) (by decide) (fun K hK=>?_)
        refine box_step ?hg (N:=11) ?hd (cs:=#[.bool false,.slice none 0 0,.slice none 0 0]) (t:=33) ?hr ?_;(case hd=>rfl);(case hg=>rfl);(case hr=>first|(go_simp;done)|(go_simp;rfl))
        intro gbn hg K1 hbox hb;have Gn:=aM (show F2.heap.size≤gbn by rw[hg];exact HB_w21.out.size)
        clear hg;have HB_w22:=aM (below_then HB_w21.out HB_w21.out.size hb);have K2:=aM (Kd.R_below J9.out hb);have K3:=aM (Kd.R_below K0.out hb);have BKn_w22:=aM hbox;clear hbox hb;refine hK.out _ _ (HS2.out _ HB_w22.out) (fun hHeld=>?_)
        clear hK K;refine nm 11 ?_;refine one_ (i:=11) (N:=none) (bA 13 4095) rfl rfl (by kernel_rfl) (by decide) (fun K hK=>?_)
        obtain⟨p4,t8,t9,p7,z3,z4⟩:=bk3 BKn_w22;refine skip_ (w1:=?_) (by rfl) rfl ?_ ?_
        rotate_left
        ·go_simp
         rfl
        have HBz:=aM (((HB_w22.out.setCell (p:=⟨gbn,0,none⟩) Gn.out (.bool I7)).setCell (p:=⟨gbn,1,none⟩) Gn.out (.slice C4 I8.length f1)).setCell (p:=⟨gbn,2,none⟩) Gn.out (.slice C6 I9.length f2));have fr:∀ (v:Value) (xs:List Int) (base:Nat),Kd.R (Kd.int .i64) 3 K1 base (fun _=>True) v xs→Kd.R (Kd.int .i64) 3 (((K1.setCell ⟨gbn,0,none⟩ (.bool I7)).setCell ⟨gbn,1,none⟩ (.slice C4 I8.length f1)).setCell ⟨gbn,2,none⟩ (.slice C6 I9.length f2)) base (fun _=>True) v xs:=fun v xs base hv=>Kd.R_mono (Kd.R_far (p:=⟨gbn,2,none⟩) (Kd.R_far (p:=⟨gbn,1,none⟩) (Kd.R_far (p:=⟨gbn,0,none⟩) (Kd.R_types hv BKn_w22.out (by decide)) (fun _ hk=>hk.2) (.bool I7)) (fun _ hk=>hk.2) (.slice C4 I8.length f1)) (fun _ hk=>hk.2) (.slice C6 I9.length f2)) (fun _ _=>trivial)
        have HZ1:=aM (fr _ _ _ K2.out);have HZ2:=aM (fr _ _ _ K3.out);have BKz:=aM (blk_put (blk_put (blk_put BKn_w22.out 0 (.bool I7) rfl) 1 (.slice C4 I8.length f1) rfl) 2 (.slice C6 I9.length f2) rfl);refine hK.out _ _ (HS2.out _ HBz.out) (fun hHeld=>?_)
        clear hK K;refine pV 12 9 (bA 13 8191) ?_;refine done_ (by kernel_rfl) ?_
        go_wp2
        go_meet
        case rel=>exact⟨gbn,C4,C6,f1,f2,rfl,rfl,BKz,HZ1,HZ2,Gn,HBz⟩
       ·refine box_step ?hg (N:=11) ?hd (cs:=#[.bool false,.slice none 0 0,.slice none 0 0]) (t:=33) ?hr ?_;(case hd=>rfl);(case hg=>rfl);(case hr=>first|(go_simp;done)|(go_simp;rfl))
        intro gbn hg K4 hbox hb;have Gn:=aM (show F2.heap.size≤gbn by rw[hg];exact HB_w33.out.size)
        clear hg;have HB_w23:=aM (below_then HB_w33.out HB_w33.out.size hb);have BKn_w23:=aM hbox;clear hbox hb;refine hK.out _ _ (HS2.out _ HB_w23.out) (fun hHeld=>?_)
        clear hK K;refine nm 11 ?_;refine one_ (i:=6) (N:=some 56) (bA 13 1151) rfl rfl (by kernel_rfl) (by decide) (fun K hK=>?_)
        have HE_w23:=aM (below_then I6.out I6.out.size HB_w23.out);refine goes_ Try.func53 (by kernel_rfl) rfl #[.agg #[.bool (rd_T33 l j).f0,.slice b4 (rd_T33 l j).f1.length b5,.slice b6 (rd_T33 l j).f2.length c2],.agg #[.bool f8,.slice X1 f9.length g1,.slice X2 g4.length g2]] (by rfl) rfl rfl mA ?_
        refine(Gzy.calls k _ (fun k_=>k_ < w.heap.size) b4 b5 _ (fun k_=>k_ < w.heap.size) b6 c2 _ f8 (fun k_=>k_ < F2.heap.size) X1 g1 f9 (fun k_=>k_ < F2.heap.size) X2 g2 g4 I7 I8 I9 J0 _ (Kd.V_mk HE.out.1 (Kd.F_below (Kd.C_F (Kd.heap_int .i64) HE.out.2.1) HE_w23.out)) (Kd.V_mk HE.out.2.2.1 (Kd.F_below (Kd.C_F (Kd.heap_int .i64) HE.out.2.2.2) HE_w23.out)) (Kd.V_mk HXC.out.1 (Kd.F_below (Kd.C_F (Kd.heap_int .i64) HXC.out.2.1) HB_w23.out)) (Kd.V_mk HXC.out.2.2.1 (Kd.F_below (Kd.C_F (Kd.heap_int .i64) HXC.out.2.2.2) HB_w23.out)) TS.out).mono ?_
        rintro e K5 ⟨l5,l6,rfl,l7,l8,hb⟩;refine⟨_,rfl,?_⟩;obtain⟨C4,f1,t6⟩:=Kd.R_slice l7;subst t6;obtain⟨C6,f2,t7⟩:=Kd.R_slice l8;subst t7;have HB_w24:=aM (below_then HB_w23.out HB_w23.out.size hb);have BKn_w24:=aM (blk_below BKn_w23.out hb);have K6:=aM (Kd.R_mono (ok':=fun _=>True) (Kd.R_lower l7 HB_w23.out.size) (fun _ _=>trivial))
        have K7:=aM (Kd.R_mono (ok':=fun _=>True) (Kd.R_lower l8 HB_w23.out.size) (fun _ _=>trivial))
        clear l7 l8 hb;refine hK.out _ _ (HS2.out _ HB_w24.out) (fun hHeld=>?_)
        clear hK K;refine nm 56 ?_;refine pV 7 49 (bA 13 1279) ?_;refine pV 8 57 (bA 13 1535) ?_;refine pV 9 58 (bA 13 2047) ?_;refine one_ (i:=11) (N:=none) (bA 13 4095) rfl rfl (by kernel_rfl) (by decide) (fun K hK=>?_)
        obtain⟨p4,t8,t9,p7,z3,z4⟩:=bk3 BKn_w24;refine skip_ (w1:=?_) (by rfl) rfl ?_ ?_
        rotate_left
        ·go_simp
         rfl
        have HBz:=aM (((HB_w24.out.setCell (p:=⟨gbn,0,none⟩) Gn.out (.bool I7)).setCell (p:=⟨gbn,1,none⟩) Gn.out (.slice C4 I8.length f1)).setCell (p:=⟨gbn,2,none⟩) Gn.out (.slice C6 I9.length f2));have fr:∀ (v:Value) (xs:List Int) (base:Nat),Kd.R (Kd.int .i64) 3 K5 base (fun _=>True) v xs→Kd.R (Kd.int .i64) 3 (((K5.setCell ⟨gbn,0,none⟩ (.bool I7)).setCell ⟨gbn,1,none⟩ (.slice C4 I8.length f1)).setCell ⟨gbn,2,none⟩ (.slice C6 I9.length f2)) base (fun _=>True) v xs:=fun v xs base hv=>Kd.R_mono (Kd.R_far (p:=⟨gbn,2,none⟩) (Kd.R_far (p:=⟨gbn,1,none⟩) (Kd.R_far (p:=⟨gbn,0,none⟩) (Kd.R_types hv BKn_w24.out (by decide)) (fun _ hk=>hk.2) (.bool I7)) (fun _ hk=>hk.2) (.slice C4 I8.length f1)) (fun _ hk=>hk.2) (.slice C6 I9.length f2)) (fun _ _=>trivial)
        have HZ1:=aM (fr _ _ _ K6.out);have HZ2:=aM (fr _ _ _ K7.out);have BKz:=aM (blk_put (blk_put (blk_put BKn_w24.out 0 (.bool I7) rfl) 1 (.slice C4 I8.length f1) rfl) 2 (.slice C6 I9.length f2) rfl);refine hK.out _ _ (HS2.out _ HBz.out) (fun hHeld=>?_)
        clear hK K;refine pV 12 9 (bA 13 8191) ?_;refine done_ (by kernel_rfl) ?_
        go_wp2
        go_meet
        case rel=>exact⟨gbn,C4,C6,f1,f2,rfl,rfl,BKz,HZ1,HZ2,Gn,HBz⟩
      case rest =>
       obtain⟨J3,C4,C6,f1,f2,rfl,rfl,K8,K9,L0,G11,HBc⟩:=hcut;have HWc:=aM (below_then I6.out I6.out.size HBc.out);have BLc:=aM ((HLO.out _ HWc.out gl HG.out.2.2.2.1).trans HLB.out);obtain⟨p4,t8,t9,p7,z3,z4⟩:=bk3 K8;obtain⟨hdz_0,hgz_0⟩:=bk1 BLc;obtain⟨ys,hys⟩:∃ y_:List S33,y_=ls ++ [(⟨I7,I8,I9⟩:S33)]:=⟨_,rfl⟩;have YS:=aM hys;clear hys;have OKA:=aM (show ∀ k,(okl k∨F2.heap.size≤k)→B1≤k∧k≠d8 from fun k hk=>hk.elim (fun h=>⟨(HOK.out k h).1,fun he=>absurd (HOK.out k h).2 (by rw[he];exact Nat.not_lt.2 G6.out)⟩) (fun h=>⟨Nat.le_trans HG.out.2.1 (Nat.le_trans I6.out.size h),fun he=>absurd (blk_lt I5.out) (by rw[← he];exact Nat.not_lt.2 h)⟩))
       have HU:=aM (show ∀ k,u.ownBlock=some k→okl k∧k < w.heap.size from fun k hk=>⟨HN.out.1 k hk,Kd.N_lt HN.out k hk⟩)
       go_upto_region 12 with (first|((with_reducible refine gate_builtin (b:=.append) (xs:=#[.tmp 59,.tmp 61]) rfl ?_);at_builtin;refine Kd.N_append k33 (w0:=w0) w0.heap.size rfl (.tmp 59) (.tmp 61) 22 33 (.agg #[(.bool false),(.slice none 0 0),(.slice none 0 0)]) 56 rfl Try.underlying22 info33 rfl (by decide) (by omega) u ls (⟨I7,I8,I9⟩:S33) [.bool I7,.slice C4 I8.length f1,.slice C6 I9.length f2] (fun k=>okl k∨F2.heap.size≤k) (fun k=>(okl k∨F2.heap.size≤k)∧some k≠u.ownBlock) rfl rfl ?aP (fun _ hk=>hk) ?aF ?aO ?aB ?aS ?aL ?_;(case aP=>exact FK_of_R K9.out L0.out (fun k hk _=>⟨.inr hk,fun he=>absurd (HU.out k he.symm).2 (Nat.not_lt.2 (Nat.le_trans I6.out.size hk))⟩));(case aF=>exact fun k hk=>.inr (Nat.le_trans HBc.out.size hk));(case aO=>exact Kd.N_mono (Kd.N_below HN.out HWc.out) (fun k hk=>.inl hk));(case aB=>exact below_then a9.out a9.out.size HWc.out);(case aS=>exact Nat.le_trans a9.out.size HWc.out.size);(case aL=>exact HLN.out);intro n0 L7 ho hb hg hat;rw[← YS.out] at ho;have o0:=aM ho;have o8:=aM hb;have n8:=aM (show ∀ k,k < wc.heap.size→¬ (okl k∧k < w.heap.size)→L7.heap[k]?=wc.heap[k]? from fun k hk hn=>hg.block k hk (fun he=>hn (HU.out k he.symm)));have HS4:=aM (show wc.heap.size≤L7.heap.size from hg.size);clear ho hb hg hat p4 t8 t9 p7 z3 z4 hdz_0 hgz_0;obtain⟨o9,p0,rfl⟩:=Kd.N_slice o0.out;have hng:=(show ¬ (okl gl∧gl < w.heap.size) from fun h=>absurd (HOK.out gl h.1).1 (Nat.not_le.2 HG.out.2.2.2.1));have BL4:=aM ((n8.out gl (blk_lt BLc.out) hng).trans BLc.out);clear hng;obtain⟨hdz_0,hgz_0⟩:=bk1 BL4))
       have hgw:gl < w.heap.size:=Nat.lt_of_lt_of_le HG.out.2.2.2.1 HG.out.2.1;have L8:¬ (okl d8∧d8 < w.heap.size):=fun h=>absurd h.2 (Nat.not_lt.2 G6.out)
       have L9:¬ (okl H8∧H8 < w.heap.size):=fun h=>absurd h.2 (Nat.not_lt.2 G10.out)
       have BL5:=aM (blk_put BL4.out 0 (.slice o9 ys.length p0) rfl);have p9:=aM (Kd.N_far (p:=⟨gl,0,none⟩) o0.out (fun k hk he=>absurd (OKA.out k hk).1 (by rw[he];exact Nat.not_le.2 HG.out.2.2.2.1)) (.slice o9 ys.length p0))
       have r6:=aM (o8.out.setCell (p:=⟨gl,0,none⟩) HGL.out (.slice o9 ys.length p0));have r7:=aM (show ∀ k,k < wc.heap.size→k≠gl→¬ (okl k∧k < w.heap.size)→(L7.setCell ⟨gl,0,none⟩ (.slice o9 ys.length p0)).heap[k]?=wc.heap[k]? from fun k hk hne hn=>(Below.heap_setCell L7 ⟨gl,0,none⟩ (.slice o9 ys.length p0) k hne).trans (n8.out k hk hn))
       have HS5:=aM (show wc.heap.size≤(L7.setCell ⟨gl,0,none⟩ (.slice o9 ys.length p0)).heap.size by simpa using HS4.out)
       clear o8 o0 n8 HS4 BL4 hdz_0 hgz_0;generalize L7.setCell ⟨gl,0,none⟩ (.slice o9 ys.length p0)=r8 at BL5 p9 r6 r7 HS5 ⊢;have F9:=aM (blk_below I5.out HBc.out);have M0:=aM (blk_below I4.out HBc.out);have M3:=aM ((r7.out d8 (blk_lt F9.out) (fun he=>absurd G6.out (by rw[he];exact Nat.not_le.2 hgw)) L8).trans F9.out)
       have M4:=aM ((r7.out H8 (blk_lt M0.out) (fun he=>absurd G10.out (by rw[he];exact Nat.not_le.2 hgw)) L9).trans M0.out)
       have XF5:=aM (Kd.FK_step (W1:=r8) XF.out (fun k hk hlt=>(r7.out k (Nat.lt_of_lt_of_le hlt HBc.out.size) (fun he=>absurd (XO.out k hk).1 (by rw[he];exact Nat.not_le.2 hgw)) (fun h=>absurd h.2 (Nat.not_lt.2 (XO.out k hk).1))).trans (HBc.out.block k hlt)))
       obtain⟨p4,t8,t9,p7,z3,z4⟩:=bk3 M3;obtain⟨hdz_0,hdz_1,hdz_2,hgz_0,hgz_1,hgz_2⟩:=bk3 M4;go_wp2
       refine rC d8 33 #[.bool f8,.slice X1 f9.length g1,.slice X2 g4.length g2] (blk_put (blk_put (blk_put M3.out 0 (.bool f8) rfl) 1 (.slice X1 f9.length g1) rfl) 2 (.slice X2 g4.length g2) rfl) Try.underlying33 ?_
       have far3:∀ k,k≠d8→(((r8.setCell ⟨d8,0,none⟩ (.bool f8)).setCell ⟨d8,1,none⟩ (.slice X1 f9.length g1)).setCell ⟨d8,2,none⟩ (.slice X2 g4.length g2)).heap[k]?=r8.heap[k]?:=fun k hk=>(Below.heap_setCell _ ⟨d8,2,none⟩ _ k hk).trans ((Below.heap_setCell _ ⟨d8,1,none⟩ _ k hk).trans (Below.heap_setCell _ ⟨d8,0,none⟩ _ k hk))
       have hsz:(((r8.setCell ⟨d8,0,none⟩ (.bool f8)).setCell ⟨d8,1,none⟩ (.slice X1 f9.length g1)).setCell ⟨d8,2,none⟩ (.slice X2 g4.length g2)).heap.size=r8.heap.size:=by simp
       have z5:∀ k,k < w.heap.size→k≠d8:=fun k hk he=>absurd G6.out (by rw[← he];exact Nat.not_le.2 hk)
       have z6:=Nat.le_trans a9.out.size G6.out;have sz:w.heap.size≤r8.heap.size:=Nat.le_trans HWc.out.size HS5.out;refine⟨⟨_,_,.slice o9 ys.length p0,fun k=>(okl k∨F2.heap.size≤k)∧k < r8.heap.size,rfl,?_,?_,?_,?_,?_,?_,?_⟩⟩
       ·exact(((r6.out.setCell (p:=⟨d8,0,none⟩) z6 _).setCell (p:=⟨d8,1,none⟩) z6 _).setCell (p:=⟨d8,2,none⟩) z6 _)
       ·rw[hsz];exact sz
       ·exact fun k hk hne hn=>(far3 k (z5 k hk)).trans ((r7.out k (Nat.lt_of_lt_of_le hk HWc.out.size) hne (fun h=>hn h.1)).trans (HWc.out.block k hk))
       ·exact fun k hk=>hk.1.elim .inl (fun h=>.inr (Nat.le_trans I6.out.size h))
       ·exact fun k hk=>by rw[hsz];exact hk.2
       ·exact Kd.FK_mono (Kd.FK_step XF5.out (fun k hk _=>far3 k (XO.out k hk).2.2)) (fun k hk=>⟨(XO.out k hk).1,fun h=>h.1.elim (fun h=>absurd (HOK.out k h).2 (Nat.not_lt.2 (XO.out k hk).1)) (fun h=>absurd (XO.out k hk).2.1 (Nat.not_lt.2 h))⟩)
       ·intro _;refine⟨(far3 gl (z5 gl hgw)).trans BL5.out,?_⟩;rw[← YS.out];exact Kd.N_step (Kd.N_bound p9.out) (fun k hk _=>far3 k (OKA.out k hk.1).2)
     ·have h:=H.out;simp only[if_neg hr] at h;injection h with h
      injection h with g8 h
      injection h with g9 j3
      injection g9 with j4 j5 j6
      subst g8 j3 j4 j5 j6;have M5:(G5 != 0)=true:=bne_iff_ne.mpr hr;obtain⟨p4,t8,t9,p7,z3,z4⟩:=bk3 I5;go_wp2
      refine rC d8 33 #[.bool false,.slice none 0 0,.slice none 0 0] (blk_put (blk_put (blk_put I5.out 0 (.bool false) rfl) 1 (.slice none 0 0) rfl) 2 (.slice none 0 0) rfl) Try.underlying33 ?_
      exact ERR.out _ _ hr (((I6.out.setCell (p:=⟨d8,0,none⟩) G6.out _).setCell (p:=⟨d8,1,none⟩) G6.out _).setCell (p:=⟨d8,2,none⟩) G6.out _)
    ·have h:=H.out;simp only[if_neg hr] at h;injection h with h
     injection h with g8 h
     injection h with g9 j3
     injection g9 with j4 j5 j6
     subst g8 j3 j4 j5 j6;have M5:(C0 != 0)=true:=bne_iff_ne.mpr hr;obtain⟨p4,t8,t9,p7,z3,z4⟩:=bk3 F9;go_wp2
     refine rC d8 33 #[.bool false,.slice none 0 0,.slice none 0 0] (blk_put (blk_put (blk_put F9.out 0 (.bool false) rfl) 1 (.slice none 0 0) rfl) 2 (.slice none 0 0) rfl) Try.underlying33 ?_
     exact ERR.out _ _ hr (((HBc.out.setCell (p:=⟨d8,0,none⟩) G6.out _).setCell (p:=⟨d8,1,none⟩) G6.out _).setCell (p:=⟨d8,2,none⟩) G6.out _)
 ·rw[if_neg hln] at h;cases h
theorem rows_kept {w:World} {base base':Nat} {a6 a7:Option Addr} {a8 c2 g:Nat} {p q:List Int} {okp okq:Nat→Prop} {cs:Array Value} (a9:Kd.R (Kd.int .i64) 3 w base okp (.slice a6 p.length a8) p) (b4:Kd.R (Kd.int .i64) 3 w base' okq (.slice a7 q.length c2) q) (hg:w.heap[g]?=some (.cells cs 22 (0,0))) :
  ∀ W:World,(∀ k,k < w.heap.size→k≠g→W.heap[k]?=w.heap[k]?)→cI W a6 p∧cI W a7 q:=fun W hW =>
 ⟨Kd.F_now (Kd.F_step (Kd.V_F (base:=base) (Kd.R_V (Kd.R_tight rfl a9))) (fun k hk hlt=>hW k hlt (fun he=>Kd.R_ne a9 hg (by decide) (he ▸ hk)))),Kd.F_now (Kd.F_step (Kd.V_F (base:=base) (Kd.R_V (Kd.R_tight rfl b4))) (fun k hk hlt=>hW k hlt (fun he=>Kd.R_ne b4 hg (by decide) (he ▸ hk))))⟩
theorem draw_each (k:Nat) (cp mass:Int) (gm gl gt gv:Nat) (A:Option Addr) (c:Nat) (l:List S33) (lb:Bool) (l1 l2:List Int) (L1:Option Addr) (cL1:Nat) (L2:Option Addr) (cL2:Nat) (ls ys:List S33) (r:Int) (a6 w:World) (hB:Below a6.heap.size a6 w)
  (hm:w.heap[gm]?=some (.cells #[.int .i64 mass] 3 (0,0))) (hl:w.heap[gl]?=some (.cells #[.slice none 0 0] 22 (0,0))) (ht:w.heap[gt]?=some (.cells #[.int .i64 cp,.slice A l.length c] 24 (0,0))) (hv:w.heap[gv]?=some (.cells #[.bool lb,.slice L1 l1.length cL1,.slice L2 l2.length cL2] 33 (0,0)))
  (hgl0:a6.heap.size≤gl) (hne:gm≠gl∧gt≠gl∧gv≠gl) (hC:Kd.C k33 a6 A l.length l) (a7:l1.length≤cL1) (a8:l2.length≤cL2)
  (hL:∀ W:World,(∀ k,k < w.heap.size→k≠gl→W.heap[k]?=w.heap[k]?)→cI W L1 l1∧cI W L2 l2) (hn:l.length≤1000)
  (h:eachL (fun j s=>draw_g k mass lb l1 l2 l (j:Int) s) l.length 0 [] []=some (ls,ys,r)) :
  Calls Try.prog 48 #[.agg #[.int .i64 cp,.slice A l.length c],.func (.func 49) #[] #[.pointer (some ⟨gm,0,none⟩),.pointer (some ⟨gl,0,none⟩),.pointer (some ⟨gt,0,none⟩),.pointer (some ⟨gv,0,none⟩)]] w fun e w'=>∃ (v:Value),e=.returned (.tuple #[v,.int .i64 r])∧Below a6.heap.size a6 w'∧(w.heap.size≤w'.heap.size∧∀ k,k < w.heap.size→k≠gl→w'.heap[k]?=w.heap[k]?)∧(r≠0→v=.slice none 0 0)∧(r=0→∃ (u:Value) (okl:Nat→Prop),w'.heap[gl]?=some (.cells #[u] 22 (0,0))∧Kd.N k33 33 w' a6.heap.size okl u ls∧(∀ k,okl k→w.heap.size≤k)∧Kd.N k33 33 w' a6.heap.size (fun k=>a6.heap.size≤k∧¬ (k < w.heap.size∨okl k)) v ys):=by
 refine(Izq.calls (fun j s=>draw_g k mass lb l1 l2 l (j:Int) s) cp A l.length c 49 #[.pointer (some ⟨gm,0,none⟩),.pointer (some ⟨gl,0,none⟩),.pointer (some ⟨gt,0,none⟩),.pointer (some ⟨gv,0,none⟩)] a6 w (fun W=>w.heap.size≤W.heap.size∧∀ k,k < w.heap.size→k≠gl→W.heap[k]?=w.heap[k]?)
  (fun _ s W ok=>∃ (u:Value) (okl:Nat→Prop),(w.heap.size≤W.heap.size∧∀ k,k < w.heap.size→k≠gl→W.heap[k]?=w.heap[k]?)∧W.heap[gl]?=some (.cells #[u] 22 (0,0))∧Kd.N k33 33 W a6.heap.size okl u s∧(∀ k,okl k→w.heap.size≤k∧k < W.heap.size)∧ok=fun k=>k < w.heap.size∨okl k) [] ls ys r _ ⟨⟨_,Try.func49,by kernel_rfl,rfl⟩,?_,?_,?_,?_⟩ ⟨.slice none 0 0,fun _=>False,⟨Nat.le_refl _,fun _ _ _=>rfl⟩,hl,Kd.N_nil _ _ _ _ _,fun _ h=>h.elim,rfl⟩ hB hn h).mono ?_
 ·rintro j s W ok s' b p q e hj ⟨u,okl,⟨hsz,hK⟩,hu,hN,hok,rfl⟩ hb hg;obtain⟨hL1,hL2⟩:=hL W hK;refine(Izw.calls k cp mass gm gl gt gv A c l lb l1 l2 L1 cL1 L2 cL2 (j:Int) u s okl w.heap.size s' b p q e a6 W hb ((hK gm (blk_lt hm) hne.1).trans hm) hu ((hK gt (blk_lt ht) hne.2.1).trans ht) ((hK gv (blk_lt hv) hne.2.2).trans hv) hgl0 ⟨hB.size,hsz,blk_lt hm,blk_lt hl,blk_lt ht,blk_lt hv⟩ hC a7 hL1 a8 hL2 hN hok (by omega) (by omega) hg).mono ?_
  rintro e' W' ⟨a9,b4,u',okl',rfl,hb',hsz',hk',b5,b6,hF,hz⟩;have hK':∀ k,k < w.heap.size→k≠gl→W'.heap[k]?=w.heap[k]?:=fun k hk hn=>(hk' k (Nat.lt_of_lt_of_le hk hsz) hn (fun ho=>absurd (hok k ho).1 (Nat.not_le.2 hk))).trans (hK k hk hn)
  refine⟨a9,b4,rfl,hb',⟨Nat.le_trans hsz hsz',hK'⟩,fun k=>k < w.heap.size∨okl' k,fun hr=>⟨u',okl',⟨Nat.le_trans hsz hsz',hK'⟩,(hz hr).1,(hz hr).2,fun k hk=>⟨(b5 k hk).elim (fun h=>(hok k h).1) (fun h=>Nat.le_trans hsz h),b6 k hk⟩,rfl⟩,?_,?_,?_,?_⟩
  ·exact fun k hk=>hk.elim (fun h=>.inl (.inl h)) (fun h=>(b5 k h).elim (fun h=>.inl (.inr h)) .inr)
  ·exact fun k hk=>hk.elim (fun h=>Nat.lt_of_lt_of_le h (Nat.le_trans hsz hsz')) (b6 k)
  ·exact Kd.FK_mono hF (fun k hk=>⟨hk.1,fun h=>h.elim (fun h=>absurd h (Nat.not_lt.2 (Nat.le_trans hsz hk.1))) hk.2⟩)
  ·exact⟨hsz',fun k hk hn=>hk' k hk (fun he=>hn (.inl (by rw[he];exact blk_lt hl))) (fun ho=>hn (.inr ho))⟩
 ·rintro j s W ok ⟨u,okl,⟨hsz,hK⟩,hu,hN,hok,rfl⟩ k hk;exact hk.elim (fun h=>Nat.lt_of_lt_of_le h hsz) (fun h=>(hok k h).2)
 ·rintro j s W W' ok ⟨u,okl,⟨hsz,hK⟩,hu,hN,hok,rfl⟩ b7 hk;exact⟨u,okl,⟨Nat.le_trans hsz b7.size,fun k b8 b9=>(hk k (.inl b8)).trans (hK k b8 b9)⟩,(hk gl (.inl (blk_lt hl))).trans hu,Kd.N_step hN (fun k b8 _=>hk k (.inr b8)),fun k b8=>⟨(hok k b8).1,Nat.lt_of_lt_of_le (hok k b8).2 b7.size⟩,rfl⟩
 ·rintro W W' ⟨hsz,hK⟩ hb;exact⟨Nat.le_trans hsz hb.size,fun k b8 b9=>(hb.block k (Nat.lt_of_lt_of_le b8 hsz)).trans (hK k b8 b9)⟩
 ·rintro e w' ⟨v,rfl,hb,b8,b9⟩;by_cases hr:r=0
  ·obtain⟨ok,⟨u,okl,hJ,hu,hN,hok,rfl⟩,hy⟩:=b9 hr;exact⟨v,rfl,hb,hJ,fun h=>absurd hr h,fun _=>⟨u,okl,hu,hN,fun k hk=>(hok k hk).1,hy⟩⟩
  ·exact⟨v,rfl,hb,(b8 hr).2,fun _=>(b8 hr).1,fun h=>absurd h hr⟩
def Gzp.f (k:Nat) (cp:Int) (l:List S33) (mass:Int):Option (Int × List S33 × List S33 × Int):=(Fzk.f k cp l).bind fun lv=>if lv.2.2.2=0 then(if mass < 0 then some (0,[],[],1) else(if mass > 1099511627776 then some (0,[],[],1) else(Hzv.f k lv.1 lv.2.1 lv.2.2.1).bind fun fl=>if fl.2=0 then(if mass > fl.1 then some (0,[],[],19) else(if l.length≤1000 then(eachL (fun j s=>draw_g k mass lv.1 lv.2.1 lv.2.2.1 l (j:Int) s) l.length 0 [] []).bind fun x=>(if x.2.2=0 then some (cp,x.1,x.2.1,0) else some (0,[],[],x.2.2)) else none)) else some (0,[],[],fl.2))) else some (0,[],[],lv.2.2.2)
theorem Gzp.calls (k:Nat) (cp:Int) (A:Option Addr) (c:Nat) (l:List S33) (mass:Int) (a6:Int) (a7 a8:List S33) (a9:Int) (w:World) (hC:Kd.C k33 w A l.length l) (hc:l.length≤c) (h:Gzp.f k cp l mass=some (a6,a7,a8,a9)) :
  Calls Try.prog 22 #[.agg #[.int .i64 cp,.slice A l.length c],.int .i64 mass] w fun e w'=>∃ v1_ v2_:Value,e=.returned (.tuple #[.agg #[.int .i64 a6,v1_],v2_,.int .i64 a9])∧Kd.N k33 33 w' w.heap.size (fun k_=>(w.heap.size≤k_)∧oV v2_ k_) v1_ a7∧Kd.N k33 33 w' w.heap.size (fun k_=>(w.heap.size≤k_)∧oV v1_ k_) v2_ a8∧bw w w':=by
 have hmf_:∀ (fn:Fn) (first cap:Array Value) (w:World),(Instr.makeFunc fn first cap).run Try.prog w=.ok (.func fn first cap) w:=fun _ _ _ _=>rfl
 unfold Gzp.f at h;rw[Option.bind_eq_some_iff] at h;obtain⟨⟨lb,l1,l2,b4⟩,hlv,h⟩:=h;have HC:=aM hC;have HL:=aM hc;have LV:=aM hlv;have H:=aM h;have HB:=aM (Below.refl w.heap.size w);clear hC hc hlv h;go_enter Try.func22,Try.ntmps22
 go_upto_region 2 with (first|((with_reducible refine gd 2 rfl ?_);refine bx #[.int .i64 cp,.slice A l.length c] 24 ?_;intro b5 hg b6 b7 hb;have G2:=gA w hg;replace HB:=bB hb;clear hb hg)|((with_reducible refine gd 3 rfl ?_);refine bx #[.int .i64 mass] 3 ?_;intro b8 hg b9 d6 hb;have G3:=gA w hg;replace b7:=kb b7 hb;replace HB:=bB hb;clear hb hg)|((with_reducible refine gd 4 rfl ?_);refine bx #[.int .i64 0,.slice none 0 0] 24 ?_;intro d7 hg d8 d9 hb;have G4:=gA w hg;have N2_4:=nl hg b7;have N4_2:=ng hg b7;have N3_4:=nl hg d6;have N4_3:=ng hg d6;replace b7:=kb b7 hb;replace d6:=kb d6 hb;replace HB:=bB hb;clear hb hg;obtain⟨e6,e7,e8,e9⟩:=bk2 b7)|((with_reducible refine gate_callee (f:=14) rfl ?_);refine goesL_ (some 14) rfl rfl Try.func14 (by kernel_rfl) rfl #[.agg #[.int .i64 cp,.slice A l.length c]] rfl (by first|exact mA|(simp [Act.eval];done)) ?_;refine(Fzk.calls k cp A c l lb l1 l2 b4 _ (Kd.C_below HC.out HB.out) HL.out LV.out).mono ?_;rintro e f4 ⟨f5,f6,rfl,f7,f8,hb⟩;refine⟨_,rfl,?_⟩;replace b7:=kb b7 hb;replace d6:=kb d6 hb;replace d9:=kb d9 hb;have HV1:=aM (Kd.R_mono (ok':=fun _=>True) (Kd.R_lower f7 HB.out.size) (fun _ _=>trivial));have HV2:=aM (Kd.R_mono (ok':=fun _=>True) (Kd.R_lower f8 HB.out.size) (fun _ _=>trivial));replace HB:=bB hb;clear hb f7 f8 e6 e7 e8 e9 LV;obtain⟨L1,f9,g4⟩:=Kd.R_slice HV1.out;subst g4;obtain⟨L2,c2,g5⟩:=Kd.R_slice HV2.out;subst g5)|((with_reducible refine gd 7 rfl ?_);refine bz 33 ?_;intro g6 hg g7 g8 hb;have G7:=gA w hg;have N37:=nl hg d6;have N27:=nl hg b7;have N47:=nl hg d9;replace b7:=kb b7 hb;replace d6:=kb d6 hb;replace d9:=kb d9 hb;replace HV1:=aM (Kd.R_below HV1.out hb);replace HV2:=aM (Kd.R_below HV2.out hb);replace HB:=bB hb;clear hb hg;obtain⟨hdz0,hdz1,hdz2,hgz0,hgz1,hgz2⟩:=bk3 g8))
 have fr:∀ (v:Value) (xs:List Int),rI g7 w (fun _=>True) v xs→Kd.R (Kd.int .i64) 3 (((g7.setCell ⟨g6,0,none⟩ (.bool lb)).setCell ⟨g6,1,none⟩ (.slice L1 l1.length f9)).setCell ⟨g6,2,none⟩ (.slice L2 l2.length c2)) w.heap.size (fun _=>True) v xs:=fun v xs hv=>Kd.R_mono (Kd.R_far (p:=⟨g6,2,none⟩) (Kd.R_far (p:=⟨g6,1,none⟩) (Kd.R_far (p:=⟨g6,0,none⟩) (Kd.R_types hv g8.out (by decide)) (fun _ hk=>hk.2) _) (fun _ hk=>hk.2) _) (fun _ hk=>hk.2) _) (fun _ _=>trivial)
 have g9:=aM (fr _ _ HV1.out);have j3:=aM (fr _ _ HV2.out);have fb:∀ (g:Nat) (o:Obj),g≠g6→g7.heap[g]?=some o→(((g7.setCell ⟨g6,0,none⟩ (.bool lb)).setCell ⟨g6,1,none⟩ (.slice L1 l1.length f9)).setCell ⟨g6,2,none⟩ (.slice L2 l2.length c2)).heap[g]?=some o:=fun g o hg ho=>(Below.heap_setCell _ ⟨g6,2,none⟩ _ g hg).trans ((Below.heap_setCell _ ⟨g6,1,none⟩ _ g hg).trans ((Below.heap_setCell _ ⟨g6,0,none⟩ _ g hg).trans ho))
 have BL2:=aM (fb _ _ N27.out b7.out);have BL3:=aM (fb _ _ N37.out d6.out);have BL4:=aM (fb _ _ N47.out d9.out);have BL7:=aM (blk_put (blk_put (blk_put g8.out 0 (.bool lb) rfl) 1 (.slice L1 l1.length f9) rfl) 2 (.slice L2 l2.length c2) rfl);have j4:=aM (((HB.out.setCell (p:=⟨g6,0,none⟩) G7.out (.bool lb)).setCell (p:=⟨g6,1,none⟩) G7.out (.slice L1 l1.length f9)).setCell (p:=⟨g6,2,none⟩) G7.out (.slice L2 l2.length c2));clear fr fb HV1 HV2 b7 d6 d9 g8 HB hdz0 hdz1 hdz2 hgz0 hgz1 hgz2;generalize (((g7.setCell { block:=g6,off:=0 } (Value.bool lb)).setCell { block:=g6,off:=1 } (Value.slice L1 l1.length f9)).setCell { block:=g6,off:=2 } (Value.slice L2 l2.length c2))=j5 at g9 j3 BL2 BL3 BL4 BL7 j4 ⊢;by_cases hr:b4=0
 ·subst hr;have h:=H.out;simp only[if_true] at h;obtain⟨j6,j7⟩:=bk1 BL3;by_cases j8:mass < 0
  ·simp only[if_pos j8] at h;have d0:decide (mass < 0)=true:=dE j8;injection h with h
   injection h with j9 h
   injection h with l5 h
   injection h with l6 l7
   subst j9 l5 l6 l7;obtain⟨hez_0,hez_1,l8,l9⟩:=bk2 BL4;go_wp2
   refine bodyPost_ret (results_ctt rfl _ _ d7 24 #[.int .i64 0,.slice none 0 0] (0,0) _ rfl (blk_put (blk_put BL4.out 0 (.int .i64 0) rfl) 1 (.slice none 0 0) rfl) Try.underlying24 rfl (by kernel_rfl)) rfl ?_
   exact⟨_,_,rfl,Kd.N_nil _ _ _ _ _,Kd.N_nil _ _ _ _ _,(j4.out.setCell (p:=⟨d7,0,none⟩) G4.out _).setCell (p:=⟨d7,1,none⟩) G4.out _⟩
  ·simp only[if_neg j8] at h;have d0:decide (mass < 0)=false:=decide_eq_false j8;by_cases m0:mass > 1099511627776
   ·simp only[if_pos m0] at h;have d1:decide (mass > 1099511627776)=true:=dE m0;have d1':decide (1099511627776 < mass)=true:=d1;injection h with h
    injection h with j9 h
    injection h with l5 h
    injection h with l6 l7
    subst j9 l5 l6 l7;obtain⟨hez_0,hez_1,l8,l9⟩:=bk2 BL4;go_wp2
    refine bodyPost_ret (results_ctt rfl _ _ d7 24 #[.int .i64 0,.slice none 0 0] (0,0) _ rfl (blk_put (blk_put BL4.out 0 (.int .i64 0) rfl) 1 (.slice none 0 0) rfl) Try.underlying24 rfl (by kernel_rfl)) rfl ?_
    exact⟨_,_,rfl,Kd.N_nil _ _ _ _ _,Kd.N_nil _ _ _ _ _,(j4.out.setCell (p:=⟨d7,0,none⟩) G4.out _).setCell (p:=⟨d7,1,none⟩) G4.out _⟩
   ·simp only[if_neg m0] at h;have d1:decide (mass > 1099511627776)=false:=decide_eq_false m0;have d1':decide (1099511627776 < mass)=false:=d1;rw[Option.bind_eq_some_iff] at h;obtain⟨⟨fl,m4⟩,hfl,h⟩:=h;have FL:=aM hfl;replace H:=aM h;clear hfl h;have D0:=aM j8;have D1:=aM m0;clear j8 m0;go_upto_region 6 with (fail)
    clear d0 d1 d1' j6 j7;obtain⟨hdz0,hdz1,hdz2,hgz0,hgz1,hgz2⟩:=bk3 BL7;go_upto_region 7 with (first|((with_reducible refine gate_callee (f:=47) rfl ?_);refine goesL_ (some 30) rfl rfl Try.func47 (by kernel_rfl) rfl #[.agg #[.bool lb,.slice L1 l1.length f9,.slice L2 l2.length c2]] rfl (by first|exact mA|(simp [Act.eval];done)) ?_;refine(Hzv.calls k lb L1 f9 l1 L2 c2 l2 fl m4 j5 (Kd.R_reads' g9.out).2.2 (Kd.R_reads' g9.out).2.1 (Kd.R_reads' j3.out).2.2 (Kd.R_reads' j3.out).2.1 FL.out).mono ?_;rintro e m5 ⟨rfl,hb⟩;refine⟨_,rfl,?_⟩;replace BL2:=aM (blk_below BL2.out hb);replace BL3:=aM (blk_below BL3.out hb);replace BL4:=aM (blk_below BL4.out hb);replace BL7:=aM (blk_below BL7.out hb);replace g9:=aM (Kd.R_below g9.out hb);replace j3:=aM (Kd.R_below j3.out hb);replace j4:=aM (below_then j4.out j4.out.size hb);clear hb FL))
    clear hdz0 hdz1 hdz2 hgz0 hgz1 hgz2;by_cases hr:m4=0
    ·subst hr;have h:=H.out;simp only[if_true] at h;obtain⟨j6,j7⟩:=bk1 BL3;by_cases hmf:mass > fl
     ·simp only[if_pos hmf] at h;have d1:decide (mass > fl)=true:=dE hmf;have d1':decide (fl < mass)=true:=d1;injection h with h
      injection h with j9 h
      injection h with l5 h
      injection h with l6 l7
      subst j9 l5 l6 l7;obtain⟨hez_0,hez_1,l8,l9⟩:=bk2 BL4;go_wp2
      refine bodyPost_ret (results_ctt rfl _ _ d7 24 #[.int .i64 0,.slice none 0 0] (0,0) _ rfl (blk_put (blk_put BL4.out 0 (.int .i64 0) rfl) 1 (.slice none 0 0) rfl) Try.underlying24 rfl (by kernel_rfl)) rfl ?_
      exact⟨_,_,rfl,Kd.N_nil _ _ _ _ _,Kd.N_nil _ _ _ _ _,(j4.out.setCell (p:=⟨d7,0,none⟩) G4.out _).setCell (p:=⟨d7,1,none⟩) G4.out _⟩
     ·simp only[if_neg hmf] at h;have d1:decide (mass > fl)=false:=decide_eq_false hmf;have d1':decide (fl < mass)=false:=d1;by_cases hln:l.length≤1000
      ·rw[if_pos hln,Option.bind_eq_some_iff] at h;obtain⟨⟨ls,ys,m6⟩,hea,h⟩:=h;have EA:=aM hea;have LN:=aM hln;replace H:=aM h;clear hea h hln hmf;obtain⟨e6,e7,e8,e9⟩:=bk2 BL2;go_upto_region 13 with (first|((with_reducible refine gd 10 rfl ?_);refine bx #[.slice none 0 0] 22 ?_;intro m7 hg m8 m9 hb;have G10:=aM (show w.heap.size≤m7 by rw[hg];exact j4.out.size);have N310:=aM (show b8≠m7 by rw[hg];exact Nat.ne_of_lt (blk_lt BL3.out));have N210:=aM (show b5≠m7 by rw[hg];exact Nat.ne_of_lt (blk_lt BL2.out));have N710:=aM (show g6≠m7 by rw[hg];exact Nat.ne_of_lt (blk_lt BL7.out));have N410:=aM (show d7≠m7 by rw[hg];exact Nat.ne_of_lt (blk_lt BL4.out));replace BL2:=aM (blk_below BL2.out hb);replace BL3:=aM (blk_below BL3.out hb);replace BL4:=aM (blk_below BL4.out hb);replace BL7:=aM (blk_below BL7.out hb);replace g9:=aM (Kd.R_below g9.out hb);replace j3:=aM (Kd.R_below j3.out hb);replace j4:=aM (below_then j4.out j4.out.size hb);clear hb hg e6 e7 e8 e9;obtain⟨e6,e7,e8,e9⟩:=bk2 BL2)|((with_reducible refine gate_callee (f:=48) rfl ?_);refine goesL_ (some 44) rfl rfl Try.func48 (by kernel_rfl) rfl #[.agg #[.int .i64 cp,.slice A l.length c],.func (.func 49) #[] #[.pointer (some ⟨b8,0,none⟩),.pointer (some ⟨m7,0,none⟩),.pointer (some ⟨b5,0,none⟩),.pointer (some ⟨g6,0,none⟩)]] rfl (by first|exact mA|(simp [Act.eval];done)) ?_;have HLL:=aM (rows_kept g9.out j3.out m9.out);refine(draw_each k cp mass b8 m7 b5 g6 A c l lb l1 l2 L1 f9 L2 c2 ls ys m6 w m8 j4.out BL3.out m9.out BL2.out BL7.out G10.out ⟨N310.out,N210.out,N710.out⟩ HC.out (Kd.R_reads' g9.out).2.1 (Kd.R_reads' j3.out).2.1 HLL.out LN.out EA.out).mono ?_;rintro e n0 ⟨n7,rfl,hb,hk,hz1,hz2⟩;refine⟨_,rfl,?_⟩;have L4:=aM (show d7 < m8.heap.size from blk_lt BL4.out);have HBA:=aM (show w.heap.size≤m8.heap.size from j4.out.size);have BM2:=aM ((hk.2 b5 (blk_lt BL2.out) N210.out).trans BL2.out);have BM4:=aM ((hk.2 d7 (blk_lt BL4.out) N410.out).trans BL4.out);have n8:=aM hb;have HZ2:=aM hz2;clear hb hk hz1 hz2 e6 e7 e8 e9 HLL BL2 BL3 BL7 g9 j3 BL4 m9))
       by_cases hr:m6=0
       ·subst hr;have h:=H.out;simp only[if_true] at h;injection h with h
        injection h with j9 h
        injection h with l5 h
        injection h with l6 l7
        subst j9 l5 l6 l7;obtain⟨u,okl,hu,hN,hok,hY⟩:=HZ2.out rfl;obtain⟨Au,cu,eu⟩:=Kd.N_slice hN;subst eu;obtain⟨Av,cv,ev⟩:=Kd.N_slice hY;subst ev;have NU:=aM hN;have NY:=aM hY;have OK:=aM hok;have BU:=aM hu;clear hN hY hok hu HZ2 H;obtain⟨e6,e7,e8,e9⟩:=bk2 BM2;obtain⟨hdz0,hgz0⟩:=bk1 BU;obtain⟨hez_0,hez_1,l8,l9⟩:=bk2 BM4;go_wp2
        refine bodyPost_ret (results_ctt rfl _ _ d7 24 #[.int .i64 cp,.slice Au ls.length cu] (0,0) _ rfl (blk_put (blk_put BM4.out 0 (.int .i64 cp) rfl) 1 (.slice Au ls.length cu) rfl) Try.underlying24 rfl (by kernel_rfl)) rfl ?_
        have f1:∀ k,okl k→k≠d7:=fun k hk he=>absurd L4.out (by rw[← he];exact Nat.not_lt.2 (OK.out k hk))
        have f2:∀ k,(w.heap.size≤k∧¬ (k < m8.heap.size∨okl k))→k≠d7:=fun k hk he=>hk.2 (.inl (by rw[he];exact L4.out))
        have hou:=NU.out.1;have hoy:=NY.out.1;have hbu:=Kd.N_base NU.out;refine⟨_,_,rfl,Kd.N_mono (Kd.N_far (p:=⟨d7,1,none⟩) (Kd.N_far (p:=⟨d7,0,none⟩) NU.out f1 (.int .i64 cp)) f1 (.slice Au ls.length cu)) (fun k hk=>⟨Nat.le_trans HBA.out (OK.out k hk),fun he=>(hoy k he.symm).2 (.inr hk)⟩),Kd.N_mono (Kd.N_far (p:=⟨d7,1,none⟩) (Kd.N_far (p:=⟨d7,0,none⟩) NY.out f2 (.int .i64 cp)) f2 (.slice Au ls.length cu)) (fun k hk=>⟨hk.1,fun he=>hk.2 (.inr (hou k he.symm))⟩),(n8.out.setCell (p:=⟨d7,0,none⟩) G4.out _).setCell (p:=⟨d7,1,none⟩) G4.out _⟩
       ·have h:=H.out;simp only[if_neg hr] at h;injection h with h
        injection h with j9 h
        injection h with l5 h
        injection h with l6 l7
        subst j9 l5 l6 l7;have n9:(m6 != 0)=true:=bne_iff_ne.mpr hr;obtain⟨hez_0,hez_1,l8,l9⟩:=bk2 BM4;go_wp2
        refine bodyPost_ret (results_ctt rfl _ _ d7 24 #[.int .i64 0,.slice none 0 0] (0,0) _ rfl (blk_put (blk_put BM4.out 0 (.int .i64 0) rfl) 1 (.slice none 0 0) rfl) Try.underlying24 rfl (by kernel_rfl)) rfl ?_
        exact⟨_,_,rfl,Kd.N_nil _ _ _ _ _,Kd.N_nil _ _ _ _ _,(n8.out.setCell (p:=⟨d7,0,none⟩) G4.out _).setCell (p:=⟨d7,1,none⟩) G4.out _⟩
      ·rw[if_neg hln] at h;cases h
    ·have h:=H.out;simp only[if_neg hr] at h;injection h with h
     injection h with j9 h
     injection h with l5 h
     injection h with l6 l7
     subst j9 l5 l6 l7;have n9:(m4 != 0)=true:=bne_iff_ne.mpr hr;obtain⟨hez_0,hez_1,l8,l9⟩:=bk2 BL4;go_wp2
     refine bodyPost_ret (results_ctt rfl _ _ d7 24 #[.int .i64 0,.slice none 0 0] (0,0) _ rfl (blk_put (blk_put BL4.out 0 (.int .i64 0) rfl) 1 (.slice none 0 0) rfl) Try.underlying24 rfl (by kernel_rfl)) rfl ?_
     exact⟨_,_,rfl,Kd.N_nil _ _ _ _ _,Kd.N_nil _ _ _ _ _,(j4.out.setCell (p:=⟨d7,0,none⟩) G4.out _).setCell (p:=⟨d7,1,none⟩) G4.out _⟩
 ·have h:=H.out;simp only[if_neg hr] at h;injection h with h
  injection h with j9 h
  injection h with l5 h
  injection h with l6 l7
  subst j9 l5 l6 l7;have n9:(b4 != 0)=true:=bne_iff_ne.mpr hr;obtain⟨hez_0,hez_1,l8,l9⟩:=bk2 BL4;go_wp2
  refine bodyPost_ret (results_ctt rfl _ _ d7 24 #[.int .i64 0,.slice none 0 0] (0,0) _ rfl (blk_put (blk_put BL4.out 0 (.int .i64 0) rfl) 1 (.slice none 0 0) rfl) Try.underlying24 rfl (by kernel_rfl)) rfl ?_
  exact⟨_,_,rfl,Kd.N_nil _ _ _ _ _,Kd.N_nil _ _ _ _ _,(j4.out.setCell (p:=⟨d7,0,none⟩) G4.out _).setCell (p:=⟨d7,1,none⟩) G4.out _⟩
theorem draw_g_mono (k:Nat) (mass:Int) (lb:Bool) (l1 l2:List Int) (l:List S33) (j:Int) (ls:List S33):LeO (draw_g k mass lb l1 l2 l j ls) (draw_g (k+1) mass lb l1 l2 l j ls):=by
 unfold draw_g;exact LeO.ite (LeO.ite (LeO.bind (LeO.refl _) (fun _=>LeO.bind (Dzm.mono _ k) (fun _=>LeO.refl _))) (LeO.bind (Dzm.mono _ k) (fun _=>LeO.bind (Fzj.mono _ _ _ _ _ _ k) (fun _=>LeO.ite (LeO.bind (Hzq.mono _ _ _ _ _ _ k) (fun _=>LeO.ite (LeO.bind (Gzy.mono _ _ _ _ _ _ k) (fun _=>LeO.refl _)) (LeO.refl _))) (LeO.refl _))))) (LeO.refl _)
theorem Gzp.mono:∀ a6 a7 a8 k,LeO (Gzp.f k a6 a7 a8) (Gzp.f (k+1) a6 a7 a8):=by
 intro a6 a7 a8 k;unfold Gzp.f;exact LeO.bind (Fzk.mono _ _ k) (fun _=>LeO.ite (LeO.ite (LeO.refl _) (LeO.ite (LeO.refl _) (LeO.bind (Hzv.mono _ _ _ k) (fun _=>LeO.ite (LeO.ite (LeO.refl _) (LeO.ite (LeO.bind (eachL_mono (fun j s=>draw_g_mono _ _ _ _ _ _ _ _) _ _ _ _) (fun _=>LeO.refl _)) (LeO.refl _))) (LeO.refl _))))) (LeO.refl _))


def Ezz.j0:Nat→Int→Bool→Int→List (S33)→Bool→List Int→List Int→Option (Bool × List Int × List Int × Int)
 | 0,_,_,_,_,_,_,_=>none
 | k+1,x1,x25,x518000,x518001,x528000,x528001,x528002=>if x25=true then(some (false,([]:List Int),([]:List Int),7)) else(if(x528001.length:Int)=0 then(some (false,([]:List Int),([]:List Int),10)) else(if 0≤x1 then(if x1 < (x518001.length:Int) then((Hzq.f k ((rd_T33 x518001 x1).f0) ((rd_T33 x518001 x1).f1) ((rd_T33 x518001 x1).f2) x528000 x528001 x528002).bind fun bt529=>(some (bt529.1,bt529.2.1,bt529.2.2.1,bt529.2.2.2))) else(none)) else(none)))
def Ezz.f (k:Nat) (a0_0:Int) (l0_1:List (S33)) (a1:Int):Option (Bool × List Int × List Int × Int):=(Fzk.f k a0_0 l0_1).bind fun bt519=>(if bt519.2.2.2=0 then(if a1 < 0 then(Ezz.j0 k a1 true a0_0 l0_1 bt519.1 bt519.2.1 bt519.2.2.1) else(Ezz.j0 k a1 (decide (a1≥(l0_1.length:Int))) a0_0 l0_1 bt519.1 bt519.2.1 bt519.2.2.1)) else(some (false,([]:List Int),([]:List Int),bt519.2.2.2)))
theorem Ezz.mono_l:∀ k,(∀ a6 a7 a8 a9 b4 b5 b6,LeO (Ezz.j0 k a6 a7 a8 a9 b4 b5 b6) (Ezz.j0 (k+1) a6 a7 a8 a9 b4 b5 b6))
 | 0=>fun _ _ _ _ _ _ _ r h=>by simp [Ezz.j0] at h
 | k+1=>by
  have ih0:=Ezz.mono_l k
  ·intro a6 a7 a8 a9 b4 b5 b6;unfold Ezz.j0;have i0:=@Hzq.mono;have i1:=@Fzk.mono;exact mM
theorem Ezz.mono:∀ a6 a7 a8 k,LeO (Ezz.f k a6 a7 a8) (Ezz.f (k+1) a6 a7 a8):=by
 intro a6 a7 a8 k;have ih0:=Ezz.mono_l k;unfold Ezz.f;have i0:=@Hzq.mono;have i1:=@Fzk.mono;exact mM
def Ezz.T8:Bool × List (List Nat × List Nat):=(true,[([],[]),([0],[0]),([],[]),([1,2],[1,2]),([3],[3]),([],[]),([4,5],[4,5]),([6],[6]),([6],[6]),([7,6,0,1,2,3,4,5,6,7,8],[7]),([8,9,0,1,2,3,4,5,6,7,8,9],[8])])
def Ezz.B8:List Nat:=[0,1,0,7,15,0,63,127,127,511,1023]
theorem Ezz.tab8:rtab .any (opsOf Try.f25 8)=Ezz.T8:=by kernel_rfl
theorem Ezz.bits8:waitsOk Ezz.T8.2 Ezz.B8=true:=by kernel_rfl
theorem Ezz.calls (k:Nat) (a6:Int) (a7:Option Addr) (a8:Nat) (a9:List (S33)) (b4:Int) (b5:Bool) (b6:List Int) (b7:List Int) (b8:Int) (w:World) (b9:Kd.C k33 w a7 a9.length a9) (d6:a9.length≤a8) (h:Ezz.f k a6 a9 b4=some (b5,b6,b7,b8)) :
  Calls Try.prog 25 #[.agg #[.int .i64 a6,.slice a7 a9.length a8],.int .i64 b4] w fun e w'=>∃ v1_ v2_:Value,e=.returned (.tuple #[.agg #[.bool b5,v1_,v2_],.int .i64 b8])∧rI w' w (oV v2_) v1_ b6∧rI w' w (oV v1_) v2_ b7∧bw w w':=by
 have hu24:=Try.underlying24;have hu33:=Try.underlying33;have d7:=aM b9;have d8:=aM d6;clear b9 d6;have HB:=aM (Below.refl w.heap.size w);have H:((Fzk.f k a6 a9).bind fun d9=>(if d9.2.2.2=0 then(if b4 < 0 then(Ezz.j0 k b4 true a6 a9 d9.1 d9.2.1 d9.2.2.1) else(Ezz.j0 k b4 (decide (b4≥(a9.length:Int))) a6 a9 d9.1 d9.2.1 d9.2.2.1)) else(some (false,([]:List Int),([]:List Int),d9.2.2.2))))=some (b5,b6,b7,b8):=h
 clear h;obtain⟨⟨e6,e7,e8,e9⟩,f4,H⟩:=bT H;(try dsimp only at H);have f5:=aM H;clear H;go_enter Try.func25,Try.ntmps25
 go_upto_if 14 with (first|((with_reducible refine gd 2 rfl ?_);refine bxg #[.int .i64 a6,.slice a7 a9.length a8] 24 ?_;intro f6 hg f7 f8 hb;have f9:=gA w hg;replace HB:=bB hb;clear hb hg)|((with_reducible refine gd 4 rfl ?_);refine bzg 33 ?_;intro g5 hg g6 g7 hb;have g8:=gA w hg;have j3:=nl hg f8;have j4:=ng hg f8;replace f8:=kb f8 hb;replace HB:=bB hb;clear hb hg;have j5:=j3.out;have j6:=j4.out;obtain⟨j7,j8,j9,l5⟩:=bk2 f8)|((with_reducible refine gc 14 rfl ?_);refine gC 14 (some 10) Try.func14 #[.agg #[.int .i64 a6,.slice a7 a9.length a8]] ?_;(with_reducible refine(Fzk.calls k a6 _ _ a9 e6 e7 e8 e9 _ ?_ ?_ f4.out).mono ?_);exact cB d7;exact d8.out;rintro e l6 ⟨l7,l8,rfl,l9,m0,hb⟩;refine⟨_,rfl,?_⟩;have m4:=rL l9;have m5:=rL m0;replace f8:=kb f8 hb;replace g7:=kb g7 hb;replace HB:=bB hb;clear hb l9 m0)|((with_reducible refine gd 6 rfl ?_);refine bzg 33 ?_;intro m6 hg m7 m8 hb;have m9:=gA w hg;have n7:=nl hg f8;have n8:=ng hg f8;have n9:=nl hg g7;have o0:=ng hg g7;replace m4:=rB m4 hb;replace m5:=rB m5 hb;replace f8:=kb f8 hb;replace g7:=kb g7 hb;replace HB:=bB hb;clear hb hg;have o8:=n8.out;have o9:=n7.out;have p0:=o0.out;have p4:=n9.out;obtain⟨p7,p9,r5,r6,r7,r8⟩:=bk3 m8;obtain⟨r9,t4,rfl⟩:=Kd.R_slice m4.out;obtain⟨t5,t6,rfl⟩:=Kd.R_slice m5.out))
 have H:=f5.out;clear f5;replace H:=iE H;rcases H with⟨t8,t9,H⟩|⟨t7,t8,t9,H⟩
 ·(first|rw[t8]|(simp only[i64_w,i32_w];rw[t8])|skip)
  have z3:=aM H;clear H;go_upto_region 4 with (fail)
  go_cut [25] (fun z4 wc=>∃ (kq:Nat) (z5:Bool),z4=.bool z5∧Aside0 (Ezz.j0 kq b4 z5 a6 a9 e6 e7 e8=some (b5,b6,b7,b8))∧Aside0 (kq≤k)∧Aside0 (rI wc w (fun k_=>oN t5 e8.length t6 k_) (.slice r9 e7.length t4) e7)∧Aside0 (rI wc w (fun k_=>oN r9 e7.length t4 k_) (.slice t5 e8.length t6) e8)∧Aside0 (wc.heap[f6]?=some (.cells #[.int .i64 a6,(.slice a7 a9.length a8)] 24 (0,0)))∧Aside0 (wc.heap[g5]?=some (.cells #[.bool false,(.slice none 0 0),(.slice none 0 0)] 33 (0,0)))∧Aside0 (wc.heap[m6]?=some (.cells #[.bool e6,(.slice r9 e7.length t4),(.slice t5 e8.length t6)] 33 (0,0)))∧Aside0 (bw w wc))
  case first =>
   have H:=z3.out;clear z3;replace H:=iD H;rcases H with⟨z7,H⟩|⟨z7,H⟩
   ·(first|rw[z7]|(simp only[i64_w,i32_w];rw[z7])|skip)
    have H':=aM H;clear H;go_wp2
    go_meet
    case rel=>exact⟨_,(true),sD,H',⟨by first|omega|exact Nat.le_refl _⟩,⟨by exact Kd.R_mono (rT m4 m8) (fun _ hk=>hk)⟩,⟨by exact Kd.R_mono (rT m5 m8) (fun _ hk=>hk)⟩,⟨by exact kf f8 n7⟩,⟨by exact kf g7 n9⟩,⟨by exact kQ m8⟩,⟨pB⟩⟩
   ·(first|rw[z7]|(simp only[i64_w,i32_w];rw[z7])|skip)
    have H':=aM H;clear H;have z8:=j3.out;have z9:=j4.out;have B0:=n7.out;have B5:=n8.out;obtain⟨B9,C0,C1,C2⟩:=bk2 f8;go_wp2
    go_meet
    case rel=>exact⟨_,(decide (b4≥(a9.length:Int))),sD,H',⟨by first|omega|exact Nat.le_refl _⟩,⟨by exact Kd.R_mono (rT m4 m8) (fun _ hk=>hk)⟩,⟨by exact Kd.R_mono (rT m5 m8) (fun _ hk=>hk)⟩,⟨by exact kf f8 n7⟩,⟨by exact kf g7 n9⟩,⟨by exact kQ m8⟩,⟨pB⟩⟩
  case rest =>
   clear z3;try clear C3
   obtain⟨kq,z5,rfl,HA,C4,C6,C7,f8,g7,m8,HB⟩:=hcut;cases kq with
   | zero=>exact absurd HA.out (by simp [Ezz.j0])
   | succ C8 =>
    have H:=HA.out;clear HA;simp only[Ezz.j0] at H;by_cases C9:z5=true
    ·subst C9;rw[if_pos rfl] at H;obtain⟨rfl,rfl,rfl,rfl⟩:=q4 H;have D2:=j4.out;have D3:=j3.out;have D4:=n9.out;have D5:=o0.out;obtain⟨D6,D7,D8,D9,E0,E1⟩:=bk3 g7;go_wp2
     refine rC g5 33 #[.bool false,.slice none 0 0,.slice none 0 0] (kQ g7) Try.underlying33 ?_
     exact⟨_,_,eW,nK,nK,pB⟩
    ·obtain rfl:=bN C9;rw[if_neg nF] at H
     replace H:=iE H;rcases H with⟨E3,E4,H⟩|⟨E2,E3,E4,H⟩
     ·obtain⟨rfl,rfl,rfl,rfl⟩:=q4 H;have E5:=n8.out;have E6:=n7.out;have E7:=o0.out;have E8:=n9.out;obtain⟨E9,F0,F2,F3,F4,F5⟩:=bk3 m8;have F6:=j4.out;have F7:=j3.out;obtain⟨F8,F9,G5,G9,H5,H6⟩:=bk3 g7;go_wp2
      refine rC g5 33 #[.bool false,.slice none 0 0,.slice none 0 0] (kQ g7) Try.underlying33 ?_
      exact⟨_,_,eW,nK,nK,pB⟩
     ·have H7:¬ (e7=[]):=fun h_=>E2 (by rw[h_];rfl)
      obtain⟨H8,H⟩:=iN H;obtain⟨H9,H⟩:=iN H;replace H:=bS H;obtain⟨⟨I0,I3,I4,I5⟩,I6,H⟩:=H;replace H:(some (I0,I3,I4,I5))=some (b5,b6,b7,b8):=H;have I7:=aM I6;clear I6;obtain⟨rfl,rfl,rfl,rfl⟩:=q4 H;have I8:=n8.out;have I9:=n7.out;have J0:=o0.out;have J1:=n9.out;obtain⟨J2,J3,J4,J5,J6,J7⟩:=bk3 m8;try go_wp2
      have n0_:=aM (Kd.R_drew C6.out);have n1_:=aM (Kd.R_drew C7.out);have n2_:=aM (blk_drew f8.out);have n3_:=aM (blk_drew g7.out);have n4_:=aM (blk_drew m8.out);have n5_:=aM (below_drew1 HB.out);clear C6 C7 f8 g7 m8 HB;have C6:=n0_;have C7:=n1_;have f8:=n2_;have g7:=n3_;have m8:=n4_;have HB:=n5_;clear n0_ n1_ n2_ n3_ n4_ n5_;obtain⟨J8,J9,K0,K1,K2,K3,K4,K5,K6,K7,K8,K9,L0⟩:=at_T33 d7.out b4 (oE aS) (oE aS);have L7:=K6;have L8:=K5;have L9:=K4;cases K3
      replace K4:=hB HB K4;replace K5:=hB HB K5;replace K6:=hB HB K6;have M0:=aM K8;have M3:=aM K7;clear K8 K7;have M4:=aM L0;have M5:=aM K9;clear L0 K9;have M6:=eT (b4);have M7:=eU (b4) a9.length;refine start_ (n:=11) (S:=fun w'=>w'.cell? ⟨f6,0,none⟩=some (.int .i64 a6)∧w'.cell? ⟨f6,1,none⟩=some (.slice (some J8) a9.length a8)∧w'.cell? ⟨m6,0,none⟩=some (.bool e6)∧w'.cell? ⟨m6,1,none⟩=some (.slice r9 e7.length t4)∧w'.cell? ⟨m6,2,none⟩=some (.slice t5 e8.length t6)∧w'.cell? (J8.add ((b4).toNat * 3))=some (.bool ((rd_T33 a9 b4).f0))∧w'.cell? ⟨(J8.add ((b4).toNat * 3)).block,(J8.add ((b4).toNat * 3)).off+1,none⟩=some (.slice J9 ((rd_T33 a9 b4).f1).length K0)∧w'.cell? ⟨(J8.add ((b4).toNat * 3)).block,(J8.add ((b4).toNat * 3)).off+2,none⟩=some (.slice K1 ((rd_T33 a9 b4).f2).length K2)) (ds:=[]) (bA 11 0) (by kernel_rfl) rfl rfl ⟨(blk_cell f8.out 0).trans rfl,(blk_cell f8.out 1).trans rfl,(blk_cell m8.out 0).trans rfl,(blk_cell m8.out 1).trans rfl,(blk_cell m8.out 2).trans rfl,(hB HB L9),(hB HB L8),(hB HB L7)⟩ (fun hHeld=>?_);refine with_tabW Ezz.tab8 Ezz.bits8 (fun HT_ HW_=>?_)
      generalize wc.drew=M8 at C6 C7 f8 g7 m8 HB M0 M4 K4 K5 K6 hHeld ⊢;refine pS 0 32 HT_ ?_;refine pS 2 34 HT_ ?_;refine tU 1 33 HT_ HW_ hHeld ?_;refine pS 3 35 HT_ ?_;refine tU 4 36 HT_ HW_ hHeld ?_;refine tU 5 37 HT_ HW_ hHeld ?_;refine oU 6 (some 38) HT_ fun K hK=>?_
      refine goes_ Try.func52 (by kernel_rfl) rfl #[.agg #[.bool ((rd_T33 a9 b4).f0),.slice J9 ((rd_T33 a9 b4).f1).length K0,.slice K1 ((rd_T33 a9 b4).f2).length K2],.agg #[.bool e6,.slice r9 e7.length t4,.slice t5 e8.length t6]] (by rfl) rfl rfl mA ?_
      with_reducible refine(Hzq.calls C8 ((rd_T33 a9 b4).f0) (fun k_=>k_ < w.heap.size) _ _ ((rd_T33 a9 b4).f1) (fun k_=>k_ < w.heap.size) _ _ ((rd_T33 a9 b4).f2) e6 (fun k_=>some k_=(.slice r9 e7.length t4:Value).ownBlock) _ _ e7 (fun k_=>some k_=(.slice t5 e8.length t6:Value).ownBlock) _ _ e8 I0 I3 I4 I5 _ ?side1 ?side2 ?side3 ?side4 I7.out).mono ?_
      (case side1=>exact Kd.V_mk M3.out (Kd.F_below (Kd.C_F (Kd.heap_int .i64) M0.out) pB))
      (case side2=>exact Kd.V_mk M5.out (Kd.F_below (Kd.C_F (Kd.heap_int .i64) M4.out) pB))
      (case side3=>exact Kd.R_V (Kd.R_tight rfl (Kd.R_types (Kd.R_types (Kd.R_types (C6.out) f8.out (by decide)) g7.out (by decide)) m8.out (by decide))))
      (case side4=>exact Kd.R_V (Kd.R_tight rfl (Kd.R_types (Kd.R_types (Kd.R_types (C7.out) f8.out (by decide)) g7.out (by decide)) m8.out (by decide))))
      rintro e M9 ⟨N0,N1,rfl,l9,m0,hb⟩;refine⟨_,rfl,?_⟩;have n0_:=rO C6 hb l9 m0
      have n1_:=rO C7 hb l9 m0
      have n2_:=rL (rn (rn (Kd.R_mono (ok':=fun k_=>oV N1 k_) l9 (fun _ hk_=>hk_.2)) C6) C7)
      have n3_:=rL (rn (rn (Kd.R_mono (ok':=fun k_=>oV N0 k_) m0 (fun _ hk_=>hk_.2)) C6) C7)
      have n4_:=kb f8 hb;have n5_:=kb g7 hb;have n6_:=kb m8 hb;have n7_:=bB hb;clear C6 C7 f8 g7 m8 HB;have C6:=n0_;have C7:=n1_;have N2:=n2_;have N3:=n3_;have f8:=n4_;have g7:=n5_;have m8:=n6_;have HB:=n7_;clear n0_ n1_ n2_ n3_ n4_ n5_ n6_ n7_;(try clear hb)
      (try clear N4)
      (try clear hk)
      (try clear hi)
      (try clear l9)
      (try clear m0)
      obtain⟨N5,N6,N7⟩:=Kd.R_slice N2.out;(first|subst N7|(injection N7 with f1_ f2_ f3_;have f4_:=f1_.symm;have f5_:=f3_.symm;clear f1_ f2_ f3_;subst f4_;subst f5_))
      obtain⟨N8,N9,O0⟩:=Kd.R_slice N3.out;(first|subst O0|(injection O0 with f1_ f2_ f3_;have f4_:=f1_.symm;have f5_:=f3_.symm;clear f1_ f2_ f3_;subst f4_;subst f5_))
      refine hK.out _ _ ⟨(blk_cell f8.out 0).trans rfl,(blk_cell f8.out 1).trans rfl,(blk_cell m8.out 0).trans rfl,(blk_cell m8.out 1).trans rfl,(blk_cell m8.out 2).trans rfl,(hB HB L9),(hB HB L8),(hB HB L7)⟩ (fun hHeld=>?_)
      clear hK K;refine nm 38 ?_;refine pS 7 39 HT_ ?_;refine pS 8 40 HT_ ?_;refine oU 9 none HT_ fun K hK=>?_
      have O1:M9.cell? ⟨g5,0,none⟩=some (.bool false):=(blk_cell g7.out 0).trans rfl;have hfs40:=blk_frozen g7.out 0;have hns40_0:=j3.out;have hns40_2:=o0.out;have hms40_0:=j4.out;have hms40_2:=n9.out;have O2:M9.cell? ⟨g5,1,none⟩=some (.slice none 0 0):=(blk_cell g7.out 1).trans rfl;have hfs42:=blk_frozen g7.out 1;have hns42_0:=j3.out;have hns42_2:=o0.out;have hms42_0:=j4.out;have hms42_2:=n9.out;have O3:M9.cell? ⟨g5,2,none⟩=some (.slice none 0 0):=(blk_cell g7.out 2).trans rfl;have hfs44:=blk_frozen g7.out 2;have hns44_0:=j3.out;have hns44_2:=o0.out;have hms44_0:=j4.out;have hms44_2:=n9.out;refine skip_ (w1:=?_) (by rfl) rfl ?_ ?_
      rotate_left
      ·go_simp
       rfl
      refine hK.out _ _ ⟨((cell_far (p:=⟨g5,_,none⟩) j3.out _).trans (((cell_far (p:=⟨g5,_,none⟩) j3.out _).trans (((cell_far (p:=⟨g5,_,none⟩) j3.out _).trans (hHeld.1)))))),((cell_far (p:=⟨g5,_,none⟩) j3.out _).trans (((cell_far (p:=⟨g5,_,none⟩) j3.out _).trans (((cell_far (p:=⟨g5,_,none⟩) j3.out _).trans (hHeld.2.1)))))),((cell_far (p:=⟨g5,_,none⟩) o0.out _).trans (((cell_far (p:=⟨g5,_,none⟩) o0.out _).trans (((cell_far (p:=⟨g5,_,none⟩) o0.out _).trans (hHeld.2.2.1)))))),((cell_far (p:=⟨g5,_,none⟩) o0.out _).trans (((cell_far (p:=⟨g5,_,none⟩) o0.out _).trans (((cell_far (p:=⟨g5,_,none⟩) o0.out _).trans (hHeld.2.2.2.1)))))),((cell_far (p:=⟨g5,_,none⟩) o0.out _).trans (((cell_far (p:=⟨g5,_,none⟩) o0.out _).trans (((cell_far (p:=⟨g5,_,none⟩) o0.out _).trans (hHeld.2.2.2.2.1)))))),((cell_far (p:=⟨g5,_,none⟩) (nC L9 g8) _).trans (((cell_far (p:=⟨g5,_,none⟩) (nC L9 g8) _).trans (((cell_far (p:=⟨g5,_,none⟩) (nC L9 g8) _).trans (hHeld.2.2.2.2.2.1)))))),((cell_far (p:=⟨g5,_,none⟩) (nC L8 g8) _).trans (((cell_far (p:=⟨g5,_,none⟩) (nC L8 g8) _).trans (((cell_far (p:=⟨g5,_,none⟩) (nC L8 g8) _).trans (hHeld.2.2.2.2.2.2.1)))))),((cell_far (p:=⟨g5,_,none⟩) (nC L7 g8) _).trans (((cell_far (p:=⟨g5,_,none⟩) (nC L7 g8) _).trans (((cell_far (p:=⟨g5,_,none⟩) (nC L7 g8) _).trans (hHeld.2.2.2.2.2.2.2))))))⟩ (fun hHeld=>?_)
      clear hK K;refine pS 10 5 HT_ ?_;refine done_ (done_of HT_.out (by kernel_rfl)) ?_
      try go_wp2
      refine rC g5 33 #[.bool I0,.slice N5 I3.length N6,.slice N8 I4.length N9] (kQ g7) Try.underlying33 ?_
      exact⟨_,_,eW,by exact Kd.R_mono (rT N2 g7) (fun _ hk=>hk.1.1),by exact Kd.R_mono (rT N3 g7) (fun _ hk=>hk.1.1),pB⟩
 ·(first|rw[t8]|(simp only[i64_w,i32_w];rw[t8])|skip)
  obtain⟨rfl,rfl,rfl,rfl⟩:=q4 H;have O4:=j4.out;have O5:=j3.out;have O6:=n9.out;have O7:=o0.out;obtain⟨O8,O9,P0,P3,P4,P5⟩:=bk3 g7;go_wp2
  refine rC g5 33 #[.bool false,.slice none 0 0,.slice none 0 0] (by refine bD ?_;refine blk_put (cs:=#[.bool false,.slice none 0 0,.slice none 0 0]) ?_ 2 _ rfl;refine bD ?_;refine blk_put (cs:=#[.bool false,.slice none 0 0,.slice none 0 0]) ?_ 1 _ rfl;refine bD ?_;refine blk_put (cs:=#[.bool false,.slice none 0 0,.slice none 0 0]) ?_ 0 _ rfl;refine bD ?_;refine blk_far ?_ n9.out _;refine bD ?_;refine blk_far ?_ n9.out _;refine bD ?_;refine blk_far ?_ n9.out _;(with_reducible repeat(first|refine blk_drewN ?_ _|refine blk_drew ?_|refine blk_alloc ?_ _));exact g7.out) Try.underlying33 ?_
  exact⟨_,_,eW,nK,nK,pB⟩


mutual
def Azz.j0:Nat→List Int→Bool→Option (Bool)
 | 0,_,_=>none
 | k+1,x0,x20=>if x20=true then(some false) else(Azz.l0 k x0 0)
def Azz.l0:Nat→List Int→Int→Option (Bool)
 | 0,_,_=>none
 | k+1,x0,x3=>if x3 < (x0.length:Int) then(if 0≤x3 then(if(rd x0 x3) < 0 then(some false) else(if(rd x0 x3)≥1000000000 then(some false) else(Azz.l0 k x0 (wrap64 (x3+1))))) else(none)) else(some true)
end
def Azz.f (k:Nat) (l0:List Int):Option (Bool):=if(l0.length:Int) > 48 then(Azz.j0 k l0 true) else(if(l0.length:Int) > 0 then(if 0≤(wrap64 ((l0.length:Int) - 1)) then(if(wrap64 ((l0.length:Int) - 1)) < (l0.length:Int) then(Azz.j0 k l0 ((rd l0 (wrap64 ((l0.length:Int) - 1))) == 0)) else(none)) else(none)) else(Azz.j0 k l0 false))
theorem Azz.mono_l:∀ k,(∀ a6 a7,LeO (Azz.j0 k a6 a7) (Azz.j0 (k+1) a6 a7))∧(∀ a6 a7,LeO (Azz.l0 k a6 a7) (Azz.l0 (k+1) a6 a7))
 | 0=>⟨fun _ _ r h=>by simp [Azz.j0] at h,fun _ _ r h=>by simp [Azz.l0] at h⟩
 | k+1=>by
  obtain⟨ih0,ih1⟩:=Azz.mono_l k;refine⟨?_,?_⟩
  ·intro a6 a7;unfold Azz.j0;exact mM
  ·intro a6 a7;unfold Azz.l0;exact mM
theorem Azz.mono:∀ a6 k,LeO (Azz.f k a6) (Azz.f (k+1) a6):=by
 intro a6 k;obtain⟨ih0,ih1⟩:=Azz.mono_l k;unfold Azz.f;exact mM
theorem Azz.calls (k:Nat) (a6:Option Addr) (a7:Nat) (l0:List Int) (r:Bool) (w:World) (a8:cI w a6 l0) (a9:l0.length≤a7) (h:Azz.f k l0=some r) :
  Calls Try.prog 70 #[.slice a6 l0.length a7] w fun e w'=>e=.returned (.bool r)∧Drawn0 w w':=by
 have b4:=aM a8;have b5:=aM a9;clear a8 a9;have H:(if(l0.length:Int) > 48 then(Azz.j0 k l0 true) else(if(l0.length:Int) > 0 then(if 0≤(wrap64 ((l0.length:Int) - 1)) then(if(wrap64 ((l0.length:Int) - 1)) < (l0.length:Int) then(Azz.j0 k l0 ((rd l0 (wrap64 ((l0.length:Int) - 1))) == 0)) else(none)) else(none)) else(Azz.j0 k l0 false)))=some r:=h
 clear h;have b6:=aM H;clear H;go_enter Try.func70,Try.ntmps70
 go_upto_region 1 with (fail)
 go_cut [20] (fun b7 wc=>∃ (kq:Nat) (b8:Bool),b7=.bool b8∧Aside0 (Azz.j0 kq l0 b8=some r)∧Aside0 (kq≤k)∧Drawn0 w wc)
 case first =>
  have H:=b6.out;clear b6;by_cases c3:(l0.length:Int) > 48
  ·rw[if_pos c3] at H;have b9:decide (48 < (l0.length:Int))=true:=dE c3;have d6:decide (48 < l0.length)=true:=dE (by omega)
   clear c3;(first|rw[b9]|(simp only[i64_w,i32_w];rw[b9])|skip)
   have H':=aM H;clear H;go_wp2
   go_meet
   case rel=>exact⟨_,(true),sD,H',⟨by first|omega|exact Nat.le_refl _⟩,dR⟩
  ·rw[if_neg c3] at H;have b9:decide (48 < (l0.length:Int))=false:=decide_eq_false c3;have d6:decide (48 < l0.length)=false:=decide_eq_false (by omega)
   clear c3;(first|rw[b9]|(simp only[i64_w,i32_w];rw[b9])|skip)
   by_cases c4:(l0.length:Int) > 0
   ·rw[if_pos c4] at H;have d7:decide (0 < (l0.length:Int))=true:=dE c4;have d8:decide (0 < l0.length)=true:=dE (by omega)
    clear c4;obtain⟨d9,e6⟩:∃ j_:Int,(wrap64 ((l0.length:Int) - 1))=j_:=⟨_,rfl⟩;replace H:(if 0≤(d9) then(if(d9) < (l0.length:Int) then(Azz.j0 k l0 ((rd l0 (d9)) == 0)) else(none)) else(none))=some r:=by first|(rw[e6] at H;exact H)|(simp only[e6] at H ⊢;exact H)
    have e7:(IntKind.i64.wrap ((l0.length:Int) - 1))=d9:=(i64_w _).trans e6;obtain⟨e8,H⟩:=iN H;obtain⟨e9,H⟩:=iN H;have H':=aM H;clear H;obtain⟨f4,f5,f6,f7,f8⟩:=aI b4.out (d9);cases f5;go_wp2
    go_meet
    case rel=>exact⟨_,(((rd l0 (d9)) == 0)),(by first|rfl|(simp;done)|(simp only[← e6] <;> (first|rfl|simp))|(simp [*];done)),H',⟨by first|omega|exact Nat.le_refl _⟩,dR⟩
   ·rw[if_neg c4] at H;have d7:decide (0 < (l0.length:Int))=false:=decide_eq_false c4;have d8:decide (0 < l0.length)=false:=decide_eq_false (by omega)
    clear c4;have H':=aM H;clear H;go_wp2
    go_meet
    case rel=>exact⟨_,(false),sD,H',⟨by first|omega|exact Nat.le_refl _⟩,dR⟩
 case rest =>
  clear b6;try clear f9
  obtain⟨kq,b8,rfl,HA,g4,⟨mc1,rfl⟩⟩:=hcut;cases kq with
  | zero=>exact absurd HA.out (by simp [Azz.j0])
  | succ g5 =>
   have H:=HA.out;clear HA;simp only[Azz.j0] at H;by_cases c8:b8=true
   ·subst c8;rw[if_pos rfl] at H;obtain rfl:=Option.some.inj H;go_wp2
    go_ret
    exact⟨sD,dR⟩
   ·obtain rfl:=bN c8;rw[if_neg nF] at H
    have H':=aM H;clear H;go_wp2
    go_loopg [3] g5 (fun kq g6 w'=>∃ (g7:Int),g6=.int .i64 g7∧Aside0 (Azz.l0 kq l0 g7=some r)∧Aside0 (kq≤g5)∧Drawn0 w w')
    case atStart=>exact⟨(0),sD,H',⟨Nat.le_refl _⟩,dR⟩
    case round =>
     clear H';try clear g8
     obtain⟨g7,rfl,HA,g9,⟨j3,rfl⟩⟩:=hrel;cases gk with
     | zero=>exact absurd HA.out (by simp [Azz.l0])
     | succ k2 =>
      have H:=HA.out;clear HA;simp only[Azz.l0] at H;replace H:=iD H;rcases H with⟨j4,H⟩|⟨j4,H⟩
      ·obtain⟨j5,H⟩:=iN H;replace H:=iD H;rcases H with⟨j7,H⟩|⟨j7,H⟩
       ·obtain rfl:=Option.some.inj H;obtain⟨j8,j9,l5,l6,l7⟩:=aI b4.out g7;cases j9;go_wp2
        go_ret
        exact⟨sD,dR⟩
       ·by_cases l8:(rd l0 g7)≥1000000000
        ·rw[if_pos l8] at H;have l9:decide (1000000000≤(rd l0 g7))=true:=dE l8;clear l8;obtain rfl:=Option.some.inj H;obtain⟨j8,j9,l5,l6,l7⟩:=aI b4.out g7;cases j9;obtain⟨m0,m4,m5,m6,m7⟩:=aI b4.out g7;obtain rfl:j8=m0:=(by injection m4);go_wp2
         go_ret
         exact⟨sD,dR⟩
        ·rw[if_neg l8] at H;have l9:decide (1000000000≤(rd l0 g7))=false:=decide_eq_false l8;clear l8;have H':=aM H;clear H;obtain⟨j8,j9,l5,l6,l7⟩:=aI b4.out g7;cases j9;obtain⟨m0,m4,m5,m6,m7⟩:=aI b4.out g7;obtain rfl:j8=m0:=(by injection m4);go_wp2
         go_roundg k2
         case measure=>have:=g4.out;have:=g9.out;omega
         case rel=>exact⟨(wrap64 (g7+1)),sD,H',⟨by have:=g4.out;have:=g9.out;omega⟩,dR⟩
      ·obtain rfl:=Option.some.inj H;go_wp2
       go_ret
       exact⟨sD,dR⟩


def Bzz.l0:Nat→List Int→Int→Option (List Int × Int)
 | 0,_,_=>none
 | k+1,x0,x4=>if x4 > 0 then(if 0≤(wrap64 (x4 - 1)) then(if(wrap64 (x4 - 1)) < (x0.length:Int) then(if(rd x0 (wrap64 (x4 - 1)))=0 then(Bzz.l0 k x0 (wrap64 (x4 - 1))) else(if x4 > 48 then(some (([]:List Int),2)) else((some (([]:List Int):List Int)).bind fun y541=>(if 0≤x4 then(if x4≤(x0.length:Int) then(if y541.length+(x0.take (x4:Int).toNat).length < 17592186044416 then(some ((y541 ++ (x0.take (x4:Int).toNat)),0)) else(none)) else(none)) else(none))))) else(none)) else(none)) else(if x4 > 48 then(some (([]:List Int),2)) else((some (([]:List Int):List Int)).bind fun y548=>(if 0≤x4 then(if x4≤(x0.length:Int) then(if y548.length+(x0.take (x4:Int).toNat).length < 17592186044416 then(some ((y548 ++ (x0.take (x4:Int).toNat)),0)) else(none)) else(none)) else(none))))
def Bzz.f (k:Nat) (l0:List Int):Option (List Int × Int):=Bzz.l0 k l0 (l0.length:Int)
theorem Bzz.mono_l:∀ k,(∀ a6 a7,LeO (Bzz.l0 k a6 a7) (Bzz.l0 (k+1) a6 a7))
 | 0=>fun _ _ r h=>by simp [Bzz.l0] at h
 | k+1=>by
  have ih0:=Bzz.mono_l k
  ·intro a6 a7;unfold Bzz.l0;exact mM
theorem Bzz.mono:∀ a6 k,LeO (Bzz.f k a6) (Bzz.f (k+1) a6):=by
 intro a6 k;have ih0:=Bzz.mono_l k;unfold Bzz.f;exact mM
theorem Bzz.calls (k:Nat) (a6:Option Addr) (a7:Nat) (l0:List Int) (a8:List Int) (a9:Int) (w:World) (b4:cI w a6 l0) (b5:l0.length≤a7) (h:Bzz.f k l0=some (a8,a9)) :
  Calls Try.prog 82 #[.slice a6 l0.length a7] w fun e w'=>∃ v0_:Value,e=.returned (.tuple #[v0_,.int .i64 a9])∧rI w' w (fun _=>True) v0_ a8∧bw w w':=by
 have b6:=aM b4;have b7:=aM b5;clear b4 b5;have HB:=aM (Below.refl w.heap.size w);have H:(Bzz.l0 k l0 (l0.length:Int))=some (a8,a9):=h;clear h;have H':=aM H;clear H;go_enter Try.func82,Try.ntmps82
 go_wp2
 go_loopg [4] k (fun kq b8 w'=>∃ (b9:Int),b8=.int .i64 b9∧Aside0 (Bzz.l0 kq l0 b9=some (a8,a9))∧Aside0 (kq≤k)∧Aside0 (bw w w'))
 case atStart=>exact⟨((l0.length:Int)),sD,H',⟨Nat.le_refl _⟩,⟨pB⟩⟩
 case round =>
  clear H';obtain⟨b9,rfl,HA,d6,HB⟩:=hrel;cases gk with
  | zero=>exact absurd HA.out (by simp [Bzz.l0])
  | succ k1 =>
   have H:=HA.out;clear HA;simp only[Bzz.l0] at H;by_cases c2:b9 > 0
   ·rw[if_pos c2] at H;have d7:decide (0 < b9)=true:=dE c2;clear c2;obtain⟨d8,d9⟩:∃ j_:Int,(wrap64 (b9 - 1))=j_:=⟨_,rfl⟩;replace H:(if 0≤(d8) then(if(d8) < (l0.length:Int) then(if(rd l0 (d8))=0 then(Bzz.l0 k1 l0 d8) else(if b9 > 48 then(some (([]:List Int),2)) else((some (([]:List Int):List Int)).bind fun e6=>(if 0≤b9 then(if b9≤(l0.length:Int) then(if e6.length+(l0.take (b9:Int).toNat).length < 17592186044416 then(some ((e6 ++ (l0.take (b9:Int).toNat)),0)) else(none)) else(none)) else(none))))) else(none)) else(none))=some (a8,a9):=by first|(rw[d9] at H;exact H)|(simp only[d9] at H ⊢;exact H)
    have e7:(IntKind.i64.wrap (b9 - 1))=d8:=(i64_w _).trans d9;obtain⟨e8,H⟩:=iN H;obtain⟨e9,H⟩:=iN H;by_cases c6:(rd l0 (d8))=0
    ·rw[if_pos c6] at H;obtain⟨f4,f5⟩:=bE c6;clear c6;have H':=aM H;clear H;obtain⟨f6,f7,f8,f9,g4⟩:=aI b6.out (d8);cases f7
     replace f8:=hB HB f8;go_wp2
     go_roundg k1
     case measure=>have:=d6.out;omega
     case rel=>exact⟨(d8),(by first|rfl|(simp;done)|(simp only[← d9] <;> (first|rfl|simp))|(simp [*];done)),H',⟨by have:=d6.out;omega⟩,⟨pB⟩⟩
    ·rw[if_neg c6] at H;obtain⟨f4,f5⟩:=bI c6;by_cases c7:b9 > 48
     ·rw[if_pos c7] at H;have g5:decide (48 < b9)=true:=dE c7;clear c7;obtain⟨rfl,rfl⟩:=q2 H;obtain⟨f6,f7,f8,f9,g4⟩:=aI b6.out (d8);cases f7
      replace f8:=hB HB f8;go_wp2
      go_ret2
      exact⟨_,by first|rfl|(simp [errW_none,errW_some] <;> rfl)|(simp only[← d9];first|rfl|(simp [errW_none,errW_some] <;> rfl))|(simp [*,errW_none,errW_some] <;> rfl),nK,pB⟩
     ·rw[if_neg c7] at H;have g5:decide (48 < b9)=false:=decide_eq_false c7;clear c7;obtain⟨e6,g6⟩:∃ y_:List Int,y_=(([]:List Int)):=⟨_,rfl⟩;replace H:(if 0≤b9 then(if b9≤(l0.length:Int) then(if e6.length+(l0.take (b9:Int).toNat).length < 17592186044416 then(some ((e6 ++ (l0.take (b9:Int).toNat)),0)) else(none)) else(none)) else(none))=some (a8,a9):=yE g6 H
      have g7:=aM g6;clear g6;obtain⟨c8,H⟩:=iO H;have g8:=eq_true c8;have g9:decide (0≤b9)=true:=dE c8;clear c8;obtain⟨c9,H⟩:=iO H;have j3:=eq_true c9;have j4:decide (b9≤(l0.length:Int))=true:=dE c9;clear c9;obtain⟨c10,H⟩:=iO H;have LMc10:=aM c10;clear c10;obtain⟨j5,j6⟩:∃ y_:List Int,y_=(e6 ++ (l0.take (b9:Int).toNat)):=⟨_,rfl⟩;replace H:(some (j5,0))=some (a8,a9):=yE j6 H
      have j7:=aM j6;clear j6;obtain⟨rfl,rfl⟩:=q2 H;obtain⟨f6,f7,f8,f9,g4⟩:=aI b6.out (d8);cases f7
      replace f8:=hB HB f8;go_wp2_with (first|((with_reducible refine gd 21 rfl ?_);refine iL 21 [] ?_;intro j8 j9 l5 hb;replace l5:=rY g7 l5;have l6:=rL l5;replace HB:=bB hb;clear hb l5;obtain⟨i013,l7,_,hsz13,_⟩:=info_parts info3;obtain⟨hcut13,l8,hC13⟩:=print_take_of (P:=Try.prog) (Value.int .i64) 0 31 3 .i64 Try.underlying31 l7 hsz13 (some f6) a7 l0 b9 (oE aS) (oE aS) b7.out;have l9:=aM (Kd.C_of_reads (h1:=fun _=>rfl) (l8 _ (Kd.reads_of_C b6.out)));have m0:=aM hC13;clear l8 hC13 l7 hsz13)|((with_reducible refine gate_builtin (b:=.append) (xs:=#[.tmp 21,.tmp 24]) rfl ?_);at_builtin;refine Kd.R_append_rows (Kd.int .i64) (w0:=w) w.heap.size rfl (.tmp 21) (.tmp 24) 31 3 (.int .i64 0) 8 rfl Try.underlying31 info3 rfl (by decide) (by omega) j8 e6 (l0.take (b9:Int).toNat) _ _ _ (fun _=>True) (fun _=>False) rfl rfl ?aO ?aR (fun _ _ h=>h) (fun _ h=>h.elim) ?aF ?aB ?aS ?aL ?_;(case aR=>first|(rw[← show(l0.take (b9:Int).toNat).length=b9.toNat from(by rw[List.length_take];have h_:(b9:Int)≤(l0.length:Int):=oE aS;omega)];(exact cB l9);done)|(have hq_:=l9.out;rw[show(l0.take (b9:Int).toNat).length=b9.toNat from(by rw[List.length_take];have h_:(b9:Int)≤(l0.length:Int):=oE aS;omega)] at hq_;(exact cX (Kd.C_below hq_ HB.out));done)|(exact cB l9));(case aB=>exact pB);(case aF=>exact(fun _ _=>trivial));(case aO=>exact(rX l6.out));(case aS=>exact(below_size pB));(case aL=>have:=LMc10.out;have hlx_:=(show(l0.take (b9:Int).toNat).length=b9.toNat from(by rw[List.length_take];have h_:(b9:Int)≤(l0.length:Int):=oE aS;omega));omega);intro m4 m5 ho hb hg hat;rw[← j7.out] at ho;have m6:=aM (ho);replace HB:=aM (hb);clear l6 ho hb hg hat))
      go_ret2
      exact⟨_,by first|rfl|(simp [errW_none,errW_some] <;> rfl)|(simp only[← d9];first|rfl|(simp [errW_none,errW_some] <;> rfl))|(simp [*,errW_none,errW_some] <;> rfl),rX m6.out,pB⟩
   ·rw[if_neg c2] at H;have d7:decide (0 < b9)=false:=decide_eq_false c2;clear c2;by_cases m7:b9 > 48
    ·rw[if_pos m7] at H;have m8:decide (48 < b9)=true:=dE m7;clear m7;obtain⟨rfl,rfl⟩:=q2 H;go_wp2
     go_ret2
     exact⟨_,eW,nK,pB⟩
    ·rw[if_neg m7] at H;have m8:decide (48 < b9)=false:=decide_eq_false m7;clear m7;obtain⟨m9,n0⟩:∃ y_:List Int,y_=(([]:List Int)):=⟨_,rfl⟩;replace H:(if 0≤b9 then(if b9≤(l0.length:Int) then(if m9.length+(l0.take (b9:Int).toNat).length < 17592186044416 then(some ((m9 ++ (l0.take (b9:Int).toNat)),0)) else(none)) else(none)) else(none))=some (a8,a9):=yE n0 H
     have n7:=aM n0;clear n0;by_cases n8:0≤b9
     ·rw[if_pos n8] at H;have n9:=eq_true n8;have o0:=dE n8;clear n8;obtain⟨o8,H⟩:=iO H;have o9:=eq_true o8;have p0:decide (b9≤(l0.length:Int))=true:=dE o8;clear o8;obtain⟨p4,H⟩:=iO H;have LMc18:=aM p4;clear p4;obtain⟨p7,p9⟩:∃ y_:List Int,y_=(m9 ++ (l0.take (b9:Int).toNat)):=⟨_,rfl⟩;replace H:(some (p7,0))=some (a8,a9):=yE p9 H
      have r5:=aM p9;clear p9;obtain⟨rfl,rfl⟩:=q2 H;go_wp2_with (first|((with_reducible refine gd 21 rfl ?_);refine iL 21 [] ?_;intro r6 r7 r8 hb;replace r8:=rY n7 r8;have r9:=rL r8;replace HB:=bB hb;clear hb r8;obtain⟨i021,t4,_,hsz21,_⟩:=info_parts info3;obtain⟨hcut21,t5,hC21⟩:=print_take_of (P:=Try.prog) (Value.int .i64) 0 31 3 .i64 Try.underlying31 t4 hsz21 a6 a7 l0 b9 (oE aS) (oE aS) b7.out;have t6:=aM (Kd.C_of_reads (h1:=fun _=>rfl) (t5 _ (Kd.reads_of_C b6.out)));have t7:=aM hC21;clear t5 hC21 t4 hsz21)|((with_reducible refine gate_builtin (b:=.append) (xs:=#[.tmp 21,.tmp 24]) rfl ?_);at_builtin;refine Kd.R_append_rows (Kd.int .i64) (w0:=w) w.heap.size rfl (.tmp 21) (.tmp 24) 31 3 (.int .i64 0) 8 rfl Try.underlying31 info3 rfl (by decide) (by omega) r6 m9 (l0.take (b9:Int).toNat) _ _ _ (fun _=>True) (fun _=>False) rfl rfl ?aO ?aR (fun _ _ h=>h) (fun _ h=>h.elim) ?aF ?aB ?aS ?aL ?_;(case aR=>first|(rw[← show(l0.take (b9:Int).toNat).length=b9.toNat from(by rw[List.length_take];have h_:(b9:Int)≤(l0.length:Int):=oE aS;omega)];(exact cB t6);done)|(have hq_:=t6.out;rw[show(l0.take (b9:Int).toNat).length=b9.toNat from(by rw[List.length_take];have h_:(b9:Int)≤(l0.length:Int):=oE aS;omega)] at hq_;(exact cX (Kd.C_below hq_ HB.out));done)|(exact cB t6));(case aB=>exact pB);(case aF=>exact(fun _ _=>trivial));(case aO=>exact(rX r9.out));(case aS=>exact(below_size pB));(case aL=>have:=LMc18.out;have hlx_:=(show(l0.take (b9:Int).toNat).length=b9.toNat from(by rw[List.length_take];have h_:(b9:Int)≤(l0.length:Int):=oE aS;omega));omega);intro t8 t9 ho hb hg hat;rw[← r5.out] at ho;have z3:=aM (ho);replace HB:=aM (hb);clear r9 ho hb hg hat))
      go_ret2
      exact⟨_,eW,rX z3.out,pB⟩
     ·rw[if_neg n8] at H;exact absurd H (by simp)

def Ezq.f (l0:List Int) (a1:Int):Option (Int):=if a1 < (l0.length:Int) then(if 0≤a1 then(some (rd l0 a1)) else(none)) else(some 0)
theorem Ezq.calls (a6:Option Addr) (a7:Nat) (l0:List Int) (a8:Int) (r:Int) (w:World) (a9:cI w a6 l0) (b4:l0.length≤a7) (h:Ezq.f l0 a8=some r) :
  Calls Try.prog 105 #[.slice a6 l0.length a7,.int .i64 a8] w fun e w'=>e=.returned (.int .i64 r)∧Drawn0 w w':=by
 have b5:=aM a9;have b6:=aM b4;clear a9 b4;have H:(if a8 < (l0.length:Int) then(if 0≤a8 then(some (rd l0 a8)) else(none)) else(some 0))=some r:=h
 clear h;replace H:=iD H;rcases H with⟨b7,H⟩|⟨b7,H⟩
 ·obtain⟨b8,H⟩:=iN H;obtain rfl:=Option.some.inj H;obtain⟨b9,d6,d7,d8,d9⟩:=aI b5.out a8;cases d6;go_enter Try.func105,Try.ntmps105
  go_wp2
  go_ret
  exact⟨sD,dR⟩
 ·obtain rfl:=Option.some.inj H;go_enter Try.func105,Try.ntmps105
  go_wp2
  go_ret
  exact⟨sD,dR⟩


mutual
def Azj.l0:Nat→List Int→List Int→List Int→Int→Option (List Int)
 | 0,_,_,_,_=>none
 | k+1,x0,x1,x5,x6=>if x6 < (x0.length:Int) then(Azj.l1 k x0 x1 x5 x6 0 0) else(Azj.l2 k x5 (x5.length:Int))
def Azj.l1:Nat→List Int→List Int→List Int→Int→Int→Int→Option (List Int)
 | 0,_,_,_,_,_,_=>none
 | k+1,x0,x1,x5,x6,x7,x8=>if x8 < (x1.length:Int) then(if 0≤(wrap64 (x6+x8)) then(if(wrap64 (x6+x8)) < (x5.length:Int) then(if 0≤x6 then(if x6 < (x0.length:Int) then((Ezq.f x1 x8).bind fun t561=>(Azj.l1 k x0 x1 (x5.set ((wrap64 (x6+x8)):Int).toNat (Int.tmod (wrap64 ((wrap64 ((rd x5 (wrap64 (x6+x8)))+(wrap64 ((rd x0 x6) * t561))))+x7)) 1000000000)) x6 (wrap64 (Int.tdiv (wrap64 ((wrap64 ((rd x5 (wrap64 (x6+x8)))+(wrap64 ((rd x0 x6) * t561))))+x7)) 1000000000)) (wrap64 (x8+1)))) else(none)) else(none)) else(none)) else(none)) else(if x7 > 0 then(if 0≤(wrap64 (x6+x8)) then(if(wrap64 (x6+x8)) < (x5.length:Int) then(if 0≤x6 then(if x6 < (x0.length:Int) then((Ezq.f x1 x8).bind fun t565=>(Azj.l1 k x0 x1 (x5.set ((wrap64 (x6+x8)):Int).toNat (Int.tmod (wrap64 ((wrap64 ((rd x5 (wrap64 (x6+x8)))+(wrap64 ((rd x0 x6) * t565))))+x7)) 1000000000)) x6 (wrap64 (Int.tdiv (wrap64 ((wrap64 ((rd x5 (wrap64 (x6+x8)))+(wrap64 ((rd x0 x6) * t565))))+x7)) 1000000000)) (wrap64 (x8+1)))) else(none)) else(none)) else(none)) else(none)) else(Azj.l0 k x0 x1 x5 (wrap64 (x6+1))))
def Azj.l2:Nat→List Int→Int→Option (List Int)
 | 0,_,_=>none
 | k+1,x5,x10=>if x10 > 0 then(if 0≤(wrap64 (x10 - 1)) then(if(wrap64 (x10 - 1)) < (x5.length:Int) then(if(rd x5 (wrap64 (x10 - 1)))=0 then(Azj.l2 k x5 (wrap64 (x10 - 1))) else(if 0≤x10 then(if x10≤(x5.length:Int) then(some (x5.take (x10:Int).toNat)) else(none)) else(none))) else(none)) else(none)) else(if 0≤x10 then(if x10≤(x5.length:Int) then(some (x5.take (x10:Int).toNat)) else(none)) else(none))
end
def Azj.f (k:Nat) (l0:List Int) (l1:List Int):Option (List Int):=if 0≤(wrap64 ((l0.length:Int)+(l1.length:Int))) then(if(wrap64 ((l0.length:Int)+(l1.length:Int)):Int).toNat≤35184372088832 then(Azj.l0 k l0 l1 (List.replicate (wrap64 ((l0.length:Int)+(l1.length:Int)):Int).toNat 0) 0) else(none)) else(none)
theorem Azj.mono_l:∀ k,(∀ a6 a7 a8 a9,LeO (Azj.l0 k a6 a7 a8 a9) (Azj.l0 (k+1) a6 a7 a8 a9))∧(∀ a6 a7 a8 a9 b4 b5,LeO (Azj.l1 k a6 a7 a8 a9 b4 b5) (Azj.l1 (k+1) a6 a7 a8 a9 b4 b5))∧(∀ a6 a7,LeO (Azj.l2 k a6 a7) (Azj.l2 (k+1) a6 a7))
 | 0=>⟨fun _ _ _ _ r h=>by simp [Azj.l0] at h,fun _ _ _ _ _ _ r h=>by simp [Azj.l1] at h,fun _ _ r h=>by simp [Azj.l2] at h⟩
 | k+1=>by
  obtain⟨ih0,ih1,ih2⟩:=Azj.mono_l k;refine⟨?_,?_,?_⟩
  ·intro a6 a7 a8 a9;unfold Azj.l0;exact mM
  ·intro a6 a7 a8 a9 b4 b5;unfold Azj.l1;exact mM
  ·intro a6 a7;unfold Azj.l2;exact mM
theorem Azj.mono:∀ a6 a7 k,LeO (Azj.f k a6 a7) (Azj.f (k+1) a6 a7):=by
 intro a6 a7 k;obtain⟨ih0,ih1,ih2⟩:=Azj.mono_l k;unfold Azj.f;exact mM
theorem Azj.calls (k:Nat) (a6:Option Addr) (a7:Nat) (l0:List Int) (a8:Option Addr) (a9:Nat) (l1:List Int) (r:List Int) (w:World) (b4:cI w a6 l0) (b5:l0.length≤a7) (b6:cI w a8 l1) (b7:l1.length≤a9) (h:Azj.f k l0 l1=some r) :
  Calls Try.prog 83 #[.slice a6 l0.length a7,.slice a8 l1.length a9] w fun e w'=>∃ v0_:Value,e=.returned (v0_)∧rI w' w (fun _=>True) v0_ r∧bw w w':=by
 have b8:=aM b4;have b9:=aM b5;clear b4 b5;have d6:=aM b6;have d7:=aM b7;clear b6 b7;have HB:=aM (Below.refl w.heap.size w);have H:(if 0≤(wrap64 ((l0.length:Int)+(l1.length:Int))) then(if(wrap64 ((l0.length:Int)+(l1.length:Int)):Int).toNat≤35184372088832 then(Azj.l0 k l0 l1 (List.replicate (wrap64 ((l0.length:Int)+(l1.length:Int)):Int).toNat 0) 0) else(none)) else(none))=some r:=h
 clear h;obtain⟨d8,d9⟩:∃ j_:Int,(wrap64 ((l0.length:Int)+(l1.length:Int)))=j_:=⟨_,rfl⟩;replace H:(if 0≤(d8) then(if(d8:Int).toNat≤35184372088832 then(Azj.l0 k l0 l1 (List.replicate (d8:Int).toNat 0) 0) else(none)) else(none))=some r:=by first|(rw[d9] at H;exact H)|(simp only[d9] at H ⊢;exact H)
 have e6:(IntKind.i64.wrap ((l0.length:Int)+(l1.length:Int)))=d8:=(i64_w _).trans d9;by_cases c4:0≤(d8)
 ·rw[if_pos c4] at H;have e7:=eq_true c4;have e8:=dE c4;clear c4;obtain⟨c5,H⟩:=iO H;have e9:=eq_true c5;have f4:decide ((d8:Int).toNat≤35184372088832)=true:=dE c5;clear c5;obtain⟨f5,f6⟩:∃ y_:List Int,y_=(List.replicate (d8:Int).toNat 0):=⟨_,rfl⟩;replace H:(Azj.l0 k l0 l1 f5 0)=some r:=yE f6 H
  have f7:=aM f6;clear f6;have H':=aM H;clear H;go_enter Try.func83,Try.ntmps83
  have fl_:True:=trivial;repeat((first|clear fl_|go_quiet (first|((with_reducible refine gate_dst (N:=16) rfl ?_);refine Kd.R_make (Kd.int .i64) _ 3 rfl (N:=16) rfl 31 _ _ rfl d8 rfl rfl Try.underlying31 (.int .i64 0) 8 info3 rfl (by decide) (by omega) 0 (ok:=fun _=>True) (okp:=fun _=>True) rfl (fun _ hk=>hk) trivial (oE aS) (Nat.le_trans (Nat.mul_le_mul_right _ (oE aS:d8.toNat≤35184372088832)) (by omega)) (Below.refl _ _) (Nat.le_refl _) ?_;intro f8 f9 g4 hb hg_ hnew_;clear hg_ hnew_;replace g4:=rY f7 g4;have g5:=rL g4;replace HB:=bB hb;clear hb g4)));go_wp2_with (first|((with_reducible refine gate_dst (N:=16) rfl ?_);refine Kd.R_make (Kd.int .i64) _ 3 rfl (N:=16) rfl 31 _ _ rfl d8 rfl rfl Try.underlying31 (.int .i64 0) 8 info3 rfl (by decide) (by omega) 0 (ok:=fun _=>True) (okp:=fun _=>True) rfl (fun _ hk=>hk) trivial (oE aS) (Nat.le_trans (Nat.mul_le_mul_right _ (oE aS:d8.toNat≤35184372088832)) (by omega)) (Below.refl _ _) (Nat.le_refl _) ?_;intro f8 f9 g4 hb hg_ hnew_;clear hg_ hnew_;replace g4:=rY f7 g4;have g5:=rL g4;replace HB:=bB hb;clear hb g4)))
  go_loopg [6] k (fun kq g6 w'=>∃ (g7:List Int) (g8:Int),g6=.int .i64 g8∧Aside0 (Azj.l0 kq l0 l1 g7 g8=some r)∧Aside0 (kq≤k)∧Aside0 (rI w' w (fun _=>True) f8 g7)∧Aside0 (bw w w'))
  case atStart=>exact⟨(f5),(0),sD,H',⟨Nat.le_refl _⟩,⟨rX g5.out⟩,⟨pB⟩⟩
  case round =>
   clear H';try clear a9
   obtain⟨g7,g8,rfl,HA,g9,j3,HB⟩:=hrel;cases gk with
   | zero=>exact absurd HA.out (by simp [Azj.l0])
   | succ k1 =>
    have H:=HA.out;clear HA;simp only[Azj.l0] at H;by_cases c8:g8 < (l0.length:Int)
    ·rw[if_pos c8] at H;have j4:=dE c8;clear c8;have H':=aM H;clear H;go_wp2
     repeat(go_quiet (fail);try go_wp2)
     go_loopg [7,8] k1 (fun kq j5 j6 w'=>∃ (j7:List Int) (j8:Int) (j9:Int),j5=.int .i64 j8∧j6=.int .i64 j9∧Aside0 (Azj.l1 kq l0 l1 j7 g8 j8 j9=some r)∧Aside0 (kq≤k1)∧Aside0 (rI w' w (fun _=>True) f8 j7)∧Aside0 (bw w w'))
     case atStart=>exact⟨(g7),(0),(0),sD,sD,H',⟨Nat.le_refl _⟩,⟨rX j3.out⟩,⟨pB⟩⟩
     case round =>
      clear H';try clear a9
      obtain⟨j7,j8,j9,rfl,rfl,HA,l5,j3,HB⟩:=hrel;cases gk with
      | zero=>exact absurd HA.out (by simp [Azj.l1])
      | succ k2 =>
       have H:=HA.out;clear HA;simp only[Azj.l1] at H;by_cases c9:j9 < (l1.length:Int)
       ·rw[if_pos c9] at H;have l6:=dE c9;clear c9;obtain⟨l7,l8⟩:∃ j_:Int,(wrap64 (g8+j9))=j_:=⟨_,rfl⟩;replace H:(if 0≤(l7) then(if(l7) < (j7.length:Int) then(if 0≤g8 then(if g8 < (l0.length:Int) then((Ezq.f l1 j9).bind fun l9=>(Azj.l1 k2 l0 l1 (j7.set ((l7):Int).toNat (Int.tmod (wrap64 ((wrap64 ((rd j7 (l7))+(wrap64 ((rd l0 g8) * l9))))+j8)) 1000000000)) g8 (wrap64 (Int.tdiv (wrap64 ((wrap64 ((rd j7 (l7))+(wrap64 ((rd l0 g8) * l9))))+j8)) 1000000000)) (wrap64 (j9+1)))) else(none)) else(none)) else(none)) else(none))=some r:=by first|(rw[l8] at H;exact H)|(simp only[l8] at H ⊢;exact H)
        have m0:(IntKind.i64.wrap (g8+j9))=l7:=(i64_w _).trans l8;obtain⟨m4,H⟩:=iN H;obtain⟨m5,H⟩:=iN H;obtain⟨m6,H⟩:=iN H;obtain⟨m7,H⟩:=iN H;obtain⟨l9,m8,H⟩:=bT H;(try dsimp only at H);obtain⟨m9,n0⟩:∃ y_:List Int,y_=(j7.set ((l7):Int).toNat (Int.tmod (wrap64 ((wrap64 ((rd j7 (l7))+(wrap64 ((rd l0 g8) * l9))))+j8)) 1000000000)):=⟨_,rfl⟩;replace H:(Azj.l1 k2 l0 l1 m9 g8 (wrap64 (Int.tdiv (wrap64 ((wrap64 ((rd j7 (l7))+(wrap64 ((rd l0 g8) * l9))))+j8)) 1000000000)) (wrap64 (j9+1)))=some r:=yE n0 H
        have n7:=aM n0;clear n0;have H':=aM H;clear H;obtain⟨n8,n9,rfl⟩:=Kd.R_slice j3.out;obtain⟨o0,o8,o9,p0,p4⟩:=aI (Kd.R_reads' j3.out).2.2 (l7);cases o8;obtain⟨p7,p9,r5,r6,r7⟩:=aI b8.out g8;cases p9
        replace r5:=hB HB r5;have fl_:True:=trivial;repeat((first|clear fl_|go_quiet (first|(go_at_call 105;(with_reducible refine(Ezq.calls _ _ l1 j9 l9 _ ?_ ?_ m8.out).mono ?_);exact cB d6;exact d7.out;rintro e w' ⟨rfl,⟨nd,rfl⟩⟩;(try exact dD);have r8:0≤((l7):Int):=oE aS;have r9:((l7):Int) < ((j7.length:Int):Int):=oE aS;obtain⟨t4,t5,t6,t7,t8,t9,z3⟩:=Kd.R_form j3.out (by omega);(first|cases t6|(injection t6 with ea_ en_ ec_;(first|subst ea_|(injection ea_ with ea_;subst ea_));subst ec_;clear en_));have z4:=aM t7;have z5:=aM z3;clear t7 t8 z3;(first|simp only[add_plain] at o9|skip);obtain⟨z6,z7⟩:=Kd.R_celln 0 j3.out ((l7):Int) r8 r9;replace r8:=eq_true r8;replace r9:=eq_true r9;obtain⟨z8,hz18_⟩:=Kd.R_celln 0 j3.out ((l7):Int) (oE aS) (oE aS);have z9:=Kd.R_putg j3.out ((l7):Int) (Int.tmod (wrap64 ((wrap64 ((rd j7 (l7))+(wrap64 ((rd l0 g8) * l9))))+j8)) 1000000000))|((with_reducible refine gate_store (t:=3) (p:=56) rfl ?_);(try(rw[drewN_self wr];generalize hq_:World.drewN wr _=wr;have n0_:=aM (Kd.R_at hq_ j3.out);have n1_:=aM (below_at hq_ HB.out);clear hq_ j3 HB;have j3:=n0_;have HB:=n1_;clear n0_ n1_;(try(obtain⟨z8,hz18_⟩:=Kd.R_celln 0 j3.out ((l7):Int) (oE aS) (oE aS)));(try(have z9:=Kd.R_putg j3.out ((l7):Int) (Int.tmod (wrap64 ((wrap64 ((rd j7 (l7))+(wrap64 ((rd l0 g8) * l9))))+j8)) 1000000000)))));refine store_event (t:=3) (p:=56) (v:=?vo_w19) (w1:=(wr.setCell ⟨t4,((l7):Int).toNat,none⟩ (.int .i64 (Int.tmod (wrap64 ((wrap64 ((rd j7 (l7))+(wrap64 ((rd l0 g8) * l9))))+j8)) 1000000000)))) ?hg ?ho ?hn ?hr ?_;(case ho=>rfl);(case hg=>rfl);(case hn=>rfl);(case hr=>first|(go_simp;done)|(go_simp;rfl));intro B0 hw;have hg:wr.grownBy B0 (some t4):=(by rw[hw];exact z9.2);have hp_:rI B0 w (fun _=>True) (.slice (some ⟨t4,0,none⟩) j7.length n9) m9:=(by rw[hw,n7.out];exact z9.1);clear z9;replace j3:=aM (hp_);replace HB:=aM ((by rw[hw];exact below_set (HB.out) z4.out:bw w B0));clear hg hw hp_)));go_wp2_with (first|(go_at_call 105;(with_reducible refine(Ezq.calls _ _ l1 j9 l9 _ ?_ ?_ m8.out).mono ?_);exact cB d6;exact d7.out;rintro e w' ⟨rfl,⟨nd,rfl⟩⟩;(try exact dD);have r8:0≤((l7):Int):=oE aS;have r9:((l7):Int) < ((j7.length:Int):Int):=oE aS;obtain⟨t4,t5,t6,t7,t8,t9,z3⟩:=Kd.R_form j3.out (by omega);(first|cases t6|(injection t6 with ea_ en_ ec_;(first|subst ea_|(injection ea_ with ea_;subst ea_));subst ec_;clear en_));have z4:=aM t7;have z5:=aM z3;clear t7 t8 z3;(first|simp only[add_plain] at o9|skip);obtain⟨z6,z7⟩:=Kd.R_celln 0 j3.out ((l7):Int) r8 r9;replace r8:=eq_true r8;replace r9:=eq_true r9;obtain⟨z8,hz18_⟩:=Kd.R_celln 0 j3.out ((l7):Int) (oE aS) (oE aS);have z9:=Kd.R_putg j3.out ((l7):Int) (Int.tmod (wrap64 ((wrap64 ((rd j7 (l7))+(wrap64 ((rd l0 g8) * l9))))+j8)) 1000000000))|((with_reducible refine gate_store (t:=3) (p:=56) rfl ?_);(try(rw[drewN_self wr];generalize hq_:World.drewN wr _=wr;have n0_:=aM (Kd.R_at hq_ j3.out);have n1_:=aM (below_at hq_ HB.out);clear hq_ j3 HB;have j3:=n0_;have HB:=n1_;clear n0_ n1_;(try(obtain⟨z8,hz18_⟩:=Kd.R_celln 0 j3.out ((l7):Int) (oE aS) (oE aS)));(try(have z9:=Kd.R_putg j3.out ((l7):Int) (Int.tmod (wrap64 ((wrap64 ((rd j7 (l7))+(wrap64 ((rd l0 g8) * l9))))+j8)) 1000000000)))));refine store_event (t:=3) (p:=56) (v:=?vo_w19) (w1:=(wr.setCell ⟨t4,((l7):Int).toNat,none⟩ (.int .i64 (Int.tmod (wrap64 ((wrap64 ((rd j7 (l7))+(wrap64 ((rd l0 g8) * l9))))+j8)) 1000000000)))) ?hg ?ho ?hn ?hr ?_;(case ho=>rfl);(case hg=>rfl);(case hn=>rfl);(case hr=>first|(go_simp;done)|(go_simp;rfl));intro B0 hw;have hg:wr.grownBy B0 (some t4):=(by rw[hw];exact z9.2);have hp_:rI B0 w (fun _=>True) (.slice (some ⟨t4,0,none⟩) j7.length n9) m9:=(by rw[hw,n7.out];exact z9.1);clear z9;replace j3:=aM (hp_);replace HB:=aM ((by rw[hw];exact below_set (HB.out) z4.out:bw w B0));clear hg hw hp_)))
        go_roundg k2
        case measure=>have:=g9.out;have:=l5.out;omega
        case rel=>exact⟨(m9),(wrap64 (Int.tdiv (wrap64 ((wrap64 ((rd j7 (l7))+(wrap64 ((rd l0 g8) * l9))))+j8)) 1000000000)),(wrap64 (j9+1)),(by first|rfl|(simp;done)|(simp only[← l8] <;> (first|rfl|simp))|(simp [*];done)),sD,H',⟨by have:=g9.out;have:=l5.out;omega⟩,⟨rX j3.out⟩,⟨pB⟩⟩
       ·rw[if_neg c9] at H;have l6:decide (j9 < (l1.length:Int))=false:=decide_eq_false c9;clear c9;by_cases B5:j8 > 0
        ·rw[if_pos B5] at H;have B9:decide (0 < j8)=true:=dE B5;clear B5;obtain⟨C0,C1⟩:∃ j_:Int,(wrap64 (g8+j9))=j_:=⟨_,rfl⟩;replace H:(if 0≤(C0) then(if(C0) < (j7.length:Int) then(if 0≤g8 then(if g8 < (l0.length:Int) then((Ezq.f l1 j9).bind fun C2=>(Azj.l1 k2 l0 l1 (j7.set ((C0):Int).toNat (Int.tmod (wrap64 ((wrap64 ((rd j7 (C0))+(wrap64 ((rd l0 g8) * C2))))+j8)) 1000000000)) g8 (wrap64 (Int.tdiv (wrap64 ((wrap64 ((rd j7 (C0))+(wrap64 ((rd l0 g8) * C2))))+j8)) 1000000000)) (wrap64 (j9+1)))) else(none)) else(none)) else(none)) else(none))=some r:=by first|(rw[C1] at H;exact H)|(simp only[C1] at H ⊢;exact H)
         have C3:(IntKind.i64.wrap (g8+j9))=C0:=(i64_w _).trans C1;obtain⟨C4,H⟩:=iN H;obtain⟨C6,H⟩:=iN H;obtain⟨C7,H⟩:=iN H;obtain⟨C8,H⟩:=iN H;obtain⟨C2,C9,H⟩:=bT H;(try dsimp only at H);obtain⟨D2,D3⟩:∃ y_:List Int,y_=(j7.set ((C0):Int).toNat (Int.tmod (wrap64 ((wrap64 ((rd j7 (C0))+(wrap64 ((rd l0 g8) * C2))))+j8)) 1000000000)):=⟨_,rfl⟩;replace H:(Azj.l1 k2 l0 l1 D2 g8 (wrap64 (Int.tdiv (wrap64 ((wrap64 ((rd j7 (C0))+(wrap64 ((rd l0 g8) * C2))))+j8)) 1000000000)) (wrap64 (j9+1)))=some r:=yE D3 H
         have D4:=aM D3;clear D3;have H':=aM H;clear H;obtain⟨D5,D6,rfl⟩:=Kd.R_slice j3.out;obtain⟨D7,D8,D9,E0,E1⟩:=aI (Kd.R_reads' j3.out).2.2 (C0);cases D8;obtain⟨E2,E3,E4,E5,E6⟩:=aI b8.out g8;cases E3
         replace E4:=hB HB E4;have fl_:True:=trivial;repeat((first|clear fl_|go_quiet (first|(go_at_call 105;(with_reducible refine(Ezq.calls _ _ l1 j9 C2 _ ?_ ?_ C9.out).mono ?_);exact cB d6;exact d7.out;rintro e w' ⟨rfl,⟨nd,rfl⟩⟩;(try exact dD);have E7:0≤((C0):Int):=oE aS;have E8:((C0):Int) < ((j7.length:Int):Int):=oE aS;obtain⟨E9,F0,F2,F3,F4,F5,F6⟩:=Kd.R_form j3.out (by omega);(first|cases F2|(injection F2 with ea_ en_ ec_;(first|subst ea_|(injection ea_ with ea_;subst ea_));subst ec_;clear en_));have F7:=aM F3;have F8:=aM F6;clear F3 F4 F6;(first|simp only[add_plain] at D9|skip);obtain⟨F9,G5⟩:=Kd.R_celln 0 j3.out ((C0):Int) E7 E8;replace E7:=eq_true E7;replace E8:=eq_true E8;obtain⟨G9,hz29_⟩:=Kd.R_celln 0 j3.out ((C0):Int) (oE aS) (oE aS);have H5:=Kd.R_putg j3.out ((C0):Int) (Int.tmod (wrap64 ((wrap64 ((rd j7 (C0))+(wrap64 ((rd l0 g8) * C2))))+j8)) 1000000000))|((with_reducible refine gate_store (t:=3) (p:=56) rfl ?_);(try(rw[drewN_self wr];generalize hq_:World.drewN wr _=wr;have n0_:=aM (Kd.R_at hq_ j3.out);have n1_:=aM (below_at hq_ HB.out);clear hq_ j3 HB;have j3:=n0_;have HB:=n1_;clear n0_ n1_;(try(obtain⟨G9,hz29_⟩:=Kd.R_celln 0 j3.out ((C0):Int) (oE aS) (oE aS)));(try(have H5:=Kd.R_putg j3.out ((C0):Int) (Int.tmod (wrap64 ((wrap64 ((rd j7 (C0))+(wrap64 ((rd l0 g8) * C2))))+j8)) 1000000000)))));refine store_event (t:=3) (p:=56) (v:=?vo_w30) (w1:=(wr.setCell ⟨E9,((C0):Int).toNat,none⟩ (.int .i64 (Int.tmod (wrap64 ((wrap64 ((rd j7 (C0))+(wrap64 ((rd l0 g8) * C2))))+j8)) 1000000000)))) ?hg ?ho ?hn ?hr ?_;(case ho=>rfl);(case hg=>rfl);(case hn=>rfl);(case hr=>first|(go_simp;done)|(go_simp;rfl));intro H6 hw;have hg:wr.grownBy H6 (some E9):=(by rw[hw];exact H5.2);have hp_:rI H6 w (fun _=>True) (.slice (some ⟨E9,0,none⟩) j7.length D6) D2:=(by rw[hw,D4.out];exact H5.1);clear H5;replace j3:=aM (hp_);replace HB:=aM ((by rw[hw];exact below_set (HB.out) F7.out:bw w H6));clear hg hw hp_)));go_wp2_with (first|(go_at_call 105;(with_reducible refine(Ezq.calls _ _ l1 j9 C2 _ ?_ ?_ C9.out).mono ?_);exact cB d6;exact d7.out;rintro e w' ⟨rfl,⟨nd,rfl⟩⟩;(try exact dD);have E7:0≤((C0):Int):=oE aS;have E8:((C0):Int) < ((j7.length:Int):Int):=oE aS;obtain⟨E9,F0,F2,F3,F4,F5,F6⟩:=Kd.R_form j3.out (by omega);(first|cases F2|(injection F2 with ea_ en_ ec_;(first|subst ea_|(injection ea_ with ea_;subst ea_));subst ec_;clear en_));have F7:=aM F3;have F8:=aM F6;clear F3 F4 F6;(first|simp only[add_plain] at D9|skip);obtain⟨F9,G5⟩:=Kd.R_celln 0 j3.out ((C0):Int) E7 E8;replace E7:=eq_true E7;replace E8:=eq_true E8;obtain⟨G9,hz29_⟩:=Kd.R_celln 0 j3.out ((C0):Int) (oE aS) (oE aS);have H5:=Kd.R_putg j3.out ((C0):Int) (Int.tmod (wrap64 ((wrap64 ((rd j7 (C0))+(wrap64 ((rd l0 g8) * C2))))+j8)) 1000000000))|((with_reducible refine gate_store (t:=3) (p:=56) rfl ?_);(try(rw[drewN_self wr];generalize hq_:World.drewN wr _=wr;have n0_:=aM (Kd.R_at hq_ j3.out);have n1_:=aM (below_at hq_ HB.out);clear hq_ j3 HB;have j3:=n0_;have HB:=n1_;clear n0_ n1_;(try(obtain⟨G9,hz29_⟩:=Kd.R_celln 0 j3.out ((C0):Int) (oE aS) (oE aS)));(try(have H5:=Kd.R_putg j3.out ((C0):Int) (Int.tmod (wrap64 ((wrap64 ((rd j7 (C0))+(wrap64 ((rd l0 g8) * C2))))+j8)) 1000000000)))));refine store_event (t:=3) (p:=56) (v:=?vo_w30) (w1:=(wr.setCell ⟨E9,((C0):Int).toNat,none⟩ (.int .i64 (Int.tmod (wrap64 ((wrap64 ((rd j7 (C0))+(wrap64 ((rd l0 g8) * C2))))+j8)) 1000000000)))) ?hg ?ho ?hn ?hr ?_;(case ho=>rfl);(case hg=>rfl);(case hn=>rfl);(case hr=>first|(go_simp;done)|(go_simp;rfl));intro H6 hw;have hg:wr.grownBy H6 (some E9):=(by rw[hw];exact H5.2);have hp_:rI H6 w (fun _=>True) (.slice (some ⟨E9,0,none⟩) j7.length D6) D2:=(by rw[hw,D4.out];exact H5.1);clear H5;replace j3:=aM (hp_);replace HB:=aM ((by rw[hw];exact below_set (HB.out) F7.out:bw w H6));clear hg hw hp_)))
         go_roundg k2
         case measure=>have:=g9.out;have:=l5.out;omega
         case rel=>exact⟨(D2),(wrap64 (Int.tdiv (wrap64 ((wrap64 ((rd j7 (C0))+(wrap64 ((rd l0 g8) * C2))))+j8)) 1000000000)),(wrap64 (j9+1)),(by first|rfl|(simp;done)|(simp only[← C1] <;> (first|rfl|simp))|(simp [*];done)),sD,H',⟨by have:=g9.out;have:=l5.out;omega⟩,⟨rX j3.out⟩,⟨pB⟩⟩
        ·rw[if_neg B5] at H;have B9:decide (0 < j8)=false:=decide_eq_false B5;clear B5;have H':=aM H;clear H;go_wp2
         repeat(go_quiet (fail);try go_wp2)
         go_roundg k2
         case measure=>have:=g9.out;have:=l5.out;omega
         case rel=>exact⟨(j7),(wrap64 (g8+1)),sD,H',⟨by have:=g9.out;have:=l5.out;omega⟩,⟨rX j3.out⟩,⟨pB⟩⟩
    ·rw[if_neg c8] at H;have j4:decide (g8 < (l0.length:Int))=false:=decide_eq_false c8;clear c8;have H':=aM H;clear H;obtain⟨H7,H8,rfl⟩:=Kd.R_slice j3.out;go_wp2
     repeat(go_quiet (fail);try go_wp2)
     go_loopg [10] k1 (fun kq H9 w'=>∃ (I0:Int),H9=.int .i64 I0∧Aside0 (Azj.l2 kq g7 I0=some r)∧Aside0 (kq≤k1)∧Aside0 (rI w' w (fun _=>True) (.slice H7 g7.length H8) g7)∧Aside0 (bw w w'))
     case atStart=>exact⟨((g7.length:Int)),sD,H',⟨Nat.le_refl _⟩,⟨rX j3.out⟩,⟨pB⟩⟩
     case round =>
      clear H';try clear a9
      obtain⟨I0,rfl,HA,l5,j3,HB⟩:=hrel;cases gk with
      | zero=>exact absurd HA.out (by simp [Azj.l2])
      | succ k2 =>
       have H:=HA.out;clear HA;simp only[Azj.l2] at H;by_cases I3:I0 > 0
       ·rw[if_pos I3] at H;have I4:decide (0 < I0)=true:=dE I3;clear I3;obtain⟨I5,I6⟩:∃ j_:Int,(wrap64 (I0 - 1))=j_:=⟨_,rfl⟩;replace H:(if 0≤(I5) then(if(I5) < (g7.length:Int) then(if(rd g7 (I5))=0 then(Azj.l2 k2 g7 I5) else(if 0≤I0 then(if I0≤(g7.length:Int) then(some (g7.take (I0:Int).toNat)) else(none)) else(none))) else(none)) else(none))=some r:=by first|(rw[I6] at H;exact H)|(simp only[I6] at H ⊢;exact H)
        have I7:(IntKind.i64.wrap (I0 - 1))=I5:=(i64_w _).trans I6;obtain⟨I8,H⟩:=iN H;obtain⟨I9,H⟩:=iN H;by_cases J0:(rd g7 (I5))=0
        ·rw[if_pos J0] at H;obtain⟨J1,J2⟩:=bE J0;clear J0;have H':=aM H;clear H;obtain⟨J3,J4,J5,J6,J7⟩:=aI (Kd.R_reads' j3.out).2.2 (I5);cases J4;go_wp2
         repeat(go_quiet (fail);try go_wp2)
         go_roundg k2
         case measure=>have:=g9.out;have:=l5.out;omega
         case rel=>exact⟨(I5),(by first|rfl|(simp;done)|(simp only[← I6] <;> (first|rfl|simp))|(simp [*];done)),H',⟨by have:=g9.out;have:=l5.out;omega⟩,⟨rX j3.out⟩,⟨pB⟩⟩
        ·rw[if_neg J0] at H;obtain⟨J1,J2⟩:=bI J0;obtain⟨J8,H⟩:=iO H;have J9:=eq_true J8;have K0:decide (0≤I0)=true:=dE J8;clear J8;obtain⟨K1,H⟩:=iO H;have K2:=eq_true K1;have K3:decide (I0≤(g7.length:Int))=true:=dE K1;clear K1;obtain⟨K4,K5⟩:∃ y_:List Int,y_=(g7.take (I0:Int).toNat):=⟨_,rfl⟩;replace H:(some K4)=some r:=yE K5 H
         have K6:=aM K5;clear K5;obtain rfl:=Option.some.inj H;obtain⟨J3,J4,J5,J6,J7⟩:=aI (Kd.R_reads' j3.out).2.2 (I5);cases J4;have K7:(I0:Int)≤((g7.length:Int):Int):=oE aS
         obtain⟨i039,K8,_,hsz39,_⟩:=info_parts info3;have hcut39:=cut_to (P:=Try.prog) 31 3 .i64 Try.underlying31 K8 (some J3) g7.length H8 I0 (oE aS) K7 (Kd.R_reads' j3.out).2.1
         have K9:=Kd.R_take (m:=(I0:Int).toNat) j3.out (by omega)
         have L0:K4.length=(I0:Int).toNat:=(by rw[K6.out,List.length_take];omega)
         rw[← K6.out] at K9;rw[← L0] at K9 hcut39;clear L0 K8 hsz39 j3;have L7:=aM K9;clear K9;replace K7:=eq_true K7;go_wp2
         repeat(go_quiet (fail);try go_wp2)
         go_ret
         exact⟨_,by first|rfl|(simp [errW_none,errW_some] <;> rfl)|(simp only[← d9,← I6];first|rfl|(simp [errW_none,errW_some] <;> rfl))|(simp [*,errW_none,errW_some] <;> rfl),rX L7.out,pB⟩
       ·rw[if_neg I3] at H;have I4:decide (0 < I0)=false:=decide_eq_false I3;clear I3;obtain⟨L8,H⟩:=iO H;have L9:=eq_true L8;have M0:decide (0≤I0)=true:=dE L8;clear L8;obtain⟨M3,H⟩:=iO H;have M4:=eq_true M3;have M5:decide (I0≤(g7.length:Int))=true:=dE M3;clear M3;obtain⟨M6,M7⟩:∃ y_:List Int,y_=(g7.take (I0:Int).toNat):=⟨_,rfl⟩;replace H:(some M6)=some r:=yE M7 H
        have M8:=aM M7;clear M7;obtain rfl:=Option.some.inj H;have M9:(I0:Int)≤((g7.length:Int):Int):=oE aS
        obtain⟨i042,N0,_,hsz42,_⟩:=info_parts info3;have hcut42:=cut_to (P:=Try.prog) 31 3 .i64 Try.underlying31 N0 H7 g7.length H8 I0 (oE aS) M9 (Kd.R_reads' j3.out).2.1
        have N1:=Kd.R_take (m:=(I0:Int).toNat) j3.out (by omega)
        have N2:M6.length=(I0:Int).toNat:=(by rw[M8.out,List.length_take];omega)
        rw[← M8.out] at N1;rw[← N2] at N1 hcut42;clear N2 N0 hsz42 j3;have N3:=aM N1;clear N1;replace M9:=eq_true M9;go_wp2
        repeat(go_quiet (fail);try go_wp2)
        go_ret
        exact⟨_,by first|rfl|(simp [errW_none,errW_some] <;> rfl)|(simp only[← d9];first|rfl|(simp [errW_none,errW_some] <;> rfl))|(simp [*,errW_none,errW_some] <;> rfl),rX N3.out,pB⟩
 ·rw[if_neg c4] at H;exact absurd H (by simp)

end Go.Proofs.Ytbnpcplckcipfaa.Print
