import Derived.Test.YtbnpcplckcipfaaPrint0
import Derived.Test.YtbnpcplckcipfaaPrint12
import Derived.Test.YtbnpcplckcipfaaPrint29
import Derived.Test.YtbnpcplckcipfaaPrint33
import Derived.Test.YtbnpcplckcipfaaPrint34
namespace Go.Proofs.Ytbnpcplckcipfaa.Print
open Go.RowKit Go.Proofs.YtbnpcplckcipfaaW.PrintWords Go.Proofs.YtbnpcplckcipfaaW.PrintLast Go.Proofs.YtbnpcplckcipfaaW.PrintMore
attribute [local go_sem] max2_int min2_int max_two min_two max_three min_three max_four min_four
set_option linter.unusedVariables false
set_option maxRecDepth 100000
set_option maxHeartbeats 8000000
set_option linter.unusedSimpArgs false

/-- One number of a tank that is drawn from: what is left,and what is taken. -/
def draw_g (k:Nat) (mass:Int) (lb:Bool) (l1 l2:List Int) (l:List S33) (j:Int) (ls:List S33):Option (List S33 × S33 × Int) :=
 if ls.length≤1000 then(if mass=0 then(Gzp.f (rd_T33 l j).f0 (rd_T33 l j).f1 (rd_T33 l j).f2).bind fun x=>(Czf.f k 0).bind fun y=>some (ls ++ [(⟨x.1,x.2.1,x.2.2⟩:S33)],(⟨y.1,y.2.1,y.2.2⟩:S33),0)
 else(Czf.f k mass).bind fun m=>(Dzm.f k (rd_T33 l j).f0 (rd_T33 l j).f1 (rd_T33 l j).f2 m.1 m.2.1 m.2.2).bind fun p=>if p.2.2.2=0 then(Fzf.f k p.1 p.2.1 p.2.2.1 lb l1 l2).bind fun x=>if x.2.2.2=0 then(Fzv.f k (rd_T33 l j).f0 (rd_T33 l j).f1 (rd_T33 l j).f2 x.1 x.2.1 x.2.2.1).bind fun t=>some (ls ++ [(⟨t.1,t.2.1,t.2.2.1⟩:S33)],(⟨x.1,x.2.1,x.2.2.1⟩:S33),t.2.2.2) else some (ls,(⟨false,[],[]⟩:S33),x.2.2.2) else some (ls,(⟨false,[],[]⟩:S33),p.2.2.2)) else none
theorem cell_eq {w W:World} {p:Addr} {v:Value} (h:W.heap[p.block]?=w.heap[p.block]?) (hc:w.cell? p=some v):W.cell? p=some v:=by
 rw[← hc];simp only[World.cell?,h]
theorem FK_zero (W:World) (ok:Nat→Prop):Kd.FK k33 W ok (⟨false,[],[]⟩:S33) [.bool false,.slice none 0 0,.slice none 0 0] :=
 k33_mkF _ _ (⟨false,[],[]⟩:S33) (Nat.le_refl _) (Kd.V_F (base:=0) (Kd.V_nil (Kd.int .i64) 3 W 0 ok)) (Nat.le_refl _) (Kd.V_F (base:=0) (Kd.V_nil (Kd.int .i64) 3 W 0 ok))
structure DrawP (w0 w:World) (gl:Nat) (okl:Nat→Prop) (b:Bool) (p q:List Int) (r:Int) (s':List S33) (e:Ending) (w':World):Prop where
 mk :: (out:∃ (v1 v2 u':Value) (okl':Nat→Prop),e=.returned (.tuple #[.agg #[.bool b,v1,v2],.int .i64 r])∧bw w0 w'∧w.heap.size≤w'.heap.size∧(∀ k,k < w.heap.size→k≠gl→¬ okl k→w'.heap[k]?=w.heap[k]?)∧(∀ k,okl' k→okl k∨w.heap.size≤k)∧(∀ k,okl' k→k < w'.heap.size)∧Kd.FK k33 w' (fun k=>w.heap.size≤k∧¬ okl' k) (⟨b,p,q⟩:S33) [.bool b,v1,v2]∧(r=0→w'.heap[gl]?=some (.cells #[u'] 22 (0,0))∧Kd.N k33 33 w' w0.heap.size okl' u' s'))
theorem FK_own {w:World} {base:Nat} (b:Bool) {a6 a7:Option Addr} {a8 c2:Nat} {p q:List Int} {okp okq:Nat→Prop} (a9:Kd.R (Kd.int .i64) 3 w base okp (.slice a6 p.length a8) p) (b4:Kd.R (Kd.int .i64) 3 w base okq (.slice a7 q.length c2) q):Kd.FK k33 w (fun k=>some k=(.slice a6 p.length a8:Value).ownBlock∨some k=(.slice a7 q.length c2:Value).ownBlock) (⟨b,p,q⟩:S33) [.bool b,.slice a6 p.length a8,.slice a7 q.length c2] :=
 k33_mkF _ _ (⟨b,p,q⟩:S33) (Kd.R_reads' a9).2.1 (Kd.V_F (base:=base) (Kd.R_V (Kd.R_mono (Kd.R_tight rfl a9) (fun k hk=>.inl hk)))) (Kd.R_reads' b4).2.1 (Kd.V_F (base:=base) (Kd.R_V (Kd.R_mono (Kd.R_tight rfl b4) (fun k hk=>.inr hk))))
theorem Hzq.calls (k:Nat) (cp mass:Int) (gm gl gt gv:Nat) (A:Option Addr) (c:Nat) (l:List S33) (lb:Bool) (l1 l2:List Int) (L1:Option Addr) (cL1:Nat) (L2:Option Addr) (cL2:Nat) (j:Int) (u:Value) (ls:List S33) (okl:Nat→Prop) (B1:Nat) (s':List S33) (b:Bool) (p q:List Int) (r:Int) (w0 w:World)
  (hB0:bw w0 w) (hm:w.heap[gm]?=some (.cells #[.int .i64 mass] 3 (0,0))) (hl:w.heap[gl]?=some (.cells #[u] 22 (0,0))) (ht:w.heap[gt]?=some (.cells #[.int .i64 cp,.slice A l.length c] 24 (0,0))) (hv:w.heap[gv]?=some (.cells #[.bool lb,.slice L1 l1.length cL1,.slice L2 l2.length cL2] 33 (0,0)))
  (hgl0:w0.heap.size≤gl) (a6:w0.heap.size≤B1∧B1≤w.heap.size∧gm < B1∧gl < B1∧gt < B1∧gv < B1) (hC:Kd.C k33 w0 A l.length l) (a7:l1.length≤cL1) (hC1:cI w L1 l1) (a8:l2.length≤cL2) (hC2:cI w L2 l2)
  (hN:Kd.N k33 33 w w0.heap.size okl u ls) (hok:∀ k,okl k→B1≤k∧k < w.heap.size) (hj0:0≤j) (hjl:j < (l.length:Int)) (h:draw_g k mass lb l1 l2 l j ls=some (s',(⟨b,p,q⟩:S33),r)) :
  Calls Try.prog 49 #[.int .i64 j,.pointer (some ⟨gm,0,none⟩),.pointer (some ⟨gl,0,none⟩),.pointer (some ⟨gt,0,none⟩),.pointer (some ⟨gv,0,none⟩)] w fun e w'=>DrawP w0 w gl okl b p q r s' e w':=by
 have errE:∀ (wz:World) (e:Int),e≠0→bw w wz→DrawP w0 w gl okl false [] [] e s' (.returned (.tuple #[.agg #[.bool false,.slice none 0 0,.slice none 0 0],.int .i64 e])) wz:=fun wz e he hb=>⟨⟨_,_,u,okl,rfl,below_then hB0 hB0.size hb,hb.size,fun k hk _ _=>hb.block k hk,fun k hk=>.inl hk,fun k hk=>Nat.lt_of_lt_of_le (hok k hk).2 hb.size,FK_zero _ _,fun h=>absurd h he⟩⟩
 have ERR:=aM errE;clear errE;have a9:=aM hB0;have HLB:=aM hl;have HVB:=aM hv;have HG:=aM a6;have HCL:=aM (And.intro a7 (And.intro hC1 (And.intro a8 hC2)));have HN:=aM hN;have HOK:=aM hok;have HGL:=aM hgl0;have HB:=aM (Below.refl w.heap.size w);obtain⟨ad,b4,b5,b6,c2,ead,b7,b8,b9,d6,hD1,d7,hD2⟩:=at_T33 hC j hj0 hjl;subst ead;have had:=World.block_lt_of_cell? _ _ b7;have HE:=aM (And.intro d6 (And.intro (Kd.C_below hD1 hB0) (And.intro d7 (Kd.C_below hD2 hB0))));have hS:∀ W:World,(∀ k,k < B1→W.heap[k]?=w.heap[k]?)→W.cell? ⟨gl,0,none⟩=some u∧W.cell? ⟨gt,1,none⟩=some (.slice (some ad) l.length c)∧W.cell? ⟨gm,0,none⟩=some (.int .i64 mass)∧W.cell? (ad.add (j.toNat * 3))=some (.bool (rd_T33 l j).f0)∧W.cell? ⟨(ad.add (j.toNat * 3)).block,(ad.add (j.toNat * 3)).off+1,none⟩=some (.slice b4 (rd_T33 l j).f1.length b5)∧W.cell? ⟨(ad.add (j.toNat * 3)).block,(ad.add (j.toNat * 3)).off+2,none⟩=some (.slice b6 (rd_T33 l j).f2.length c2):=fun W hW =>
  ⟨cell_eq (hW gl a6.2.2.2.1) ((blk_cell hl 0).trans rfl),cell_eq (hW gt a6.2.2.2.2.1) ((blk_cell ht 1).trans rfl),cell_eq (hW gm a6.2.2.1) ((blk_cell hm 0).trans rfl),cell_eq (hW _ (Nat.lt_of_lt_of_le had a6.1)) (pw_cell_below hB0 b7),cell_eq (p:=⟨_,_,none⟩) (hW _ (Nat.lt_of_lt_of_le had a6.1)) (pw_cell_below hB0 b8),cell_eq (p:=⟨_,_,none⟩) (hW _ (Nat.lt_of_lt_of_le had a6.1)) (pw_cell_below hB0 b9)⟩
 have HS:=aM hS;have hlo:∀ W,bw w W→∀ k,k < B1→W.heap[k]?=w.heap[k]?:=fun W hW k hk=>hW.block k (Nat.lt_of_lt_of_le hk a6.2.1)
 have HLO:=aM hlo;have pT:=eq_true hj0;have qT:=eq_true hjl;unfold draw_g at h;by_cases hln:ls.length≤1000
 ·rw[if_pos hln] at h;have HLN:=aM (show(ls.length+1) * 56≤140737488355328 by omega)
  have H:=aM h;clear h hln hB0 hl hv ht hm a6 a7 hC1 a8 hC2 hN hok hgl0 b7 b8 b9 d6 hD1 d7 hD2 had hS hlo hC hjl hj0;go_enter Try.func49,Try.ntmps49
  go_upto_region 1 with (first|((with_reducible refine gd 6 rfl ?_);refine bz 33 ?_;intro d8 hg d9 e6 hb;have G6:=gA w hg;replace HB:=bB hb;clear hb hg))
  have e7:=HS.out _ (HLO.out _ HB.out);obtain⟨e8,e9,f3,f4,f5,f6⟩:=e7;by_cases hz:mass=0
  ·subst hz;have h:=H.out;simp only[if_true] at h;rw[Option.bind_eq_some_iff] at h;obtain⟨⟨f7,f8,f9⟩,hcp,h⟩:=h;rw[Option.bind_eq_some_iff] at h;obtain⟨⟨g4,g5,g6⟩,hnu,h⟩:=h;injection h with h
   injection h with g7 h
   injection h with g8 g9
   injection g8 with j3 j4 j5
   simp only at g7 g9 j3 j4 j5;subst g7 g9 j3 j4 j5;have CP:=aM hcp;have NU:=aM hnu;clear hcp hnu H;go_upto_region 2 with (fail)
   clear e8 e9 f3 f4 f5 f6;have HBd:=aM HB.out.drew;have j6:=aM (blk_drew e6.out);refine start_ (n:=10) (S:=fun W=>W.cell? ⟨gl,0,none⟩=some u∧W.cell? ⟨gt,1,none⟩=some (.slice (some ad) l.length c)∧W.cell? ⟨gm,0,none⟩=some (.int .i64 0)∧W.cell? (ad.add (j.toNat * 3))=some (.bool (rd_T33 l j).f0)∧W.cell? ⟨(ad.add (j.toNat * 3)).block,(ad.add (j.toNat * 3)).off+1,none⟩=some (.slice b4 (rd_T33 l j).f1.length b5)∧W.cell? ⟨(ad.add (j.toNat * 3)).block,(ad.add (j.toNat * 3)).off+2,none⟩=some (.slice b6 (rd_T33 l j).f2.length c2)) (ds:=[9]) (bA 10 0) (by kernel_rfl) rfl rfl (HS.out _ (HLO.out _ HBd.out)) (fun hHeld=>?_)
   generalize d9.drew=j7 at HBd j6 hHeld ⊢;clear HB e6;refine tV 0 14 (bA 10 1) hHeld ?_;refine pV 1 15 (bA 10 3) ?_;refine tV 2 16 (bA 10 7) hHeld ?_;refine pV 3 17 (bA 10 15) ?_;refine pV 4 18 (bA 10 31) ?_;refine tV 5 19 (bA 10 63) hHeld ?_;refine one_ (i:=6) (N:=some 20) (bA 10 127) rfl rfl (by kernel_rfl) (by decide) (fun K hK=>?_)
   refine goes_ Try.func50 (by kernel_rfl) rfl #[.agg #[.bool (rd_T33 l j).f0,.slice b4 (rd_T33 l j).f1.length b5,.slice b6 (rd_T33 l j).f2.length c2]] (by rfl) rfl rfl mA ?_
   refine(Gzp.calls _ b4 b5 _ b6 c2 _ f7 f8 f9 j7 (Kd.C_below HE.out.2.1 HBd.out) HE.out.1 (Kd.C_below HE.out.2.2.2 HBd.out) HE.out.2.2.1 CP.out).mono ?_;rintro e j8 ⟨j9,l5,rfl,l6,l7,hb⟩;refine⟨_,rfl,?_⟩;have l8:=aM (below_then HBd.out HBd.out.size hb);have L6:=aM (show d8 < j7.heap.size from blk_lt j6.out)
   have l9:=aM (blk_below j6.out hb);have HS2:=aM HBd.out.size;have m0:=aM l6;have m4:=aM l7;clear l6 l7 hb j6 HBd;obtain⟨m5,m6,rfl⟩:=Kd.R_slice m0.out;obtain⟨m7,m8,rfl⟩:=Kd.R_slice m4.out;refine hK.out _ _ (HS.out _ (HLO.out _ l8.out)) (fun hHeld=>?_)
   clear hK K;refine nm 20 ?_;refine one_ (i:=7) (N:=some 21) (bA 10 255) rfl rfl (by kernel_rfl) (by decide) (fun K hK=>?_)
   refine value_ (w1:=?_) (v:=?_) (by rfl) rfl ?_ ?_
   rotate_left 2
   ·go_simp
    constructor
    ·rfl
    ·rfl
   refine hK.out _ _ (HS.out _ (HLO.out _ (below_alloc l8.out _))) (fun hHeld=>?_)
   clear hK K;refine nm 21 ?_;refine one_ (i:=8) (N:=some 22) (bA 10 511) rfl rfl (by kernel_rfl) (by decide) (fun K hK=>?_)
   have okA:∀ k,(okl k∨(w.heap.size≤k∧k≠d8))→B1≤k:=fun k hk=>hk.elim (fun h=>(HOK.out k h).1) (fun h=>Nat.le_trans HG.out.2.1 h.1)
   have OKA:=aM okA;clear okA;refine Kd.N_append_step k33 (w0:=w0) w0.heap.size (by rfl) (.tmp 14) (.tmp 21) 22 33 (.agg #[(.bool false),(.slice none 0 0),(.slice none 0 0)]) 56 rfl Try.underlying22 info33 rfl (by decide) (by omega) u ls (⟨f7,f8,f9⟩:S33) [.bool f7,.slice m5 f8.length m6,.slice m7 f9.length m8] (fun k=>okl k∨(w.heap.size≤k∧k≠d8)) (fun k=>(okl k∨(w.heap.size≤k∧k≠d8))∧some k≠u.ownBlock) rfl rfl ?aP (fun _ hk=>hk) ?aF ?aO ?aB ?aS ?aL ?_
   (case aP=>exact FK_of_R m0.out m4.out (fun k hk _=>⟨.inr ⟨Nat.le_trans HS2.out hk,fun he=>absurd hk (Nat.not_le.2 (by rw[he];exact L6.out))⟩,fun he=>absurd (Kd.N_lt HN.out k he.symm) (Nat.not_lt.2 (Nat.le_trans HS2.out hk))⟩))
   (case aF=>exact fun k hk=>.inr ⟨Nat.le_trans l8.out.size hk,fun he=>absurd (blk_lt l9.out) (by rw[← he];exact Nat.not_lt.2 hk)⟩)
   (case aO=>exact Kd.N_mono (Kd.N_below HN.out l8.out) (fun k hk=>.inl hk))
   (case aB=>exact below_then a9.out a9.out.size l8.out)
   (case aS=>exact Nat.le_trans a9.out.size l8.out.size)
   (case aL=>exact HLN.out)
   intro m9 n0 ho hb hg hat;obtain⟨ys,hys⟩:∃ y_:List S33,y_=ls ++ [(⟨f7,f8,f9⟩:S33)]:=⟨_,rfl⟩;rw[← hys] at ho;have YS:=aM hys;clear hys;have HLO4:=aM (show ∀ k,k < B1→n0.heap[k]?=w.heap[k]? from fun k hk=>(hg.block k (Nat.lt_of_lt_of_le (Nat.lt_of_lt_of_le hk HG.out.2.1) l8.out.size) (fun he=>absurd (HOK.out k (HN.out.1 k he.symm)).1 (Nat.not_le.2 hk))).trans (HLO.out _ l8.out k hk))
   have n7:=aM (show ∀ k,k < w.heap.size→¬ okl k→n0.heap[k]?=w.heap[k]? from fun k hk hn=>(hg.block k (Nat.lt_of_lt_of_le hk l8.out.size) (fun he=>hn (HN.out.1 k he.symm))).trans (l8.out.block k hk))
   have n8:=aM ((hg.block d8 (blk_lt l9.out) (fun he=>absurd (Kd.N_lt HN.out _ he.symm) (Nat.not_lt.2 G6.out))).trans l9.out)
   have n9:=aM ho;have o0:=aM hb;have HS4:=aM (Nat.le_trans l8.out.size hg.size);clear ho hb hg hat m0 m4 l8 l9 HS2 L6;obtain⟨o8,o9,rfl⟩:=Kd.N_slice n9.out;refine hK.out _ _ (HS.out _ HLO4.out) (fun hHeld=>?_)
   clear hK K;refine nm 22 ?_;refine last_ (i:=9) (N:=none) (bA 10 1023) rfl rfl (by kernel_rfl) (by decide) (fun K hK=>?_)
   have BL4:=aM ((HLO4.out gl HG.out.2.2.2.1).trans HLB.out);obtain⟨p0,p4⟩:=bk1 BL4;refine skip_ (w1:=?_) (by rfl) rfl ?_ ?_
   rotate_left
   ·go_simp
    rfl
   refine hK.out _ _ ?_;clear hK K p0 p4;refine done_ (by kernel_rfl) ?_
   have BL5:=aM (blk_put BL4.out 0 (.slice o8 ys.length o9) rfl);have p7:=aM (Kd.N_far (p:=⟨gl,0,none⟩) n9.out (fun k hk he=>absurd (OKA.out k hk) (by rw[he];exact Nat.not_le.2 HG.out.2.2.2.1)) (.slice o8 ys.length o9))
   have p9:=aM (blk_far (p:=⟨gl,0,none⟩) n8.out (fun he=>absurd G6.out (by rw[he];exact Nat.not_le.2 (Nat.lt_of_lt_of_le HG.out.2.2.2.1 HG.out.2.1))) (.slice o8 ys.length o9))
   have r5:=aM (o0.out.setCell (p:=⟨gl,0,none⟩) HGL.out (.slice o8 ys.length o9));have r6:=aM (show ∀ k,k < w.heap.size→k≠gl→¬ okl k→(n0.setCell ⟨gl,0,none⟩ (.slice o8 ys.length o9)).heap[k]?=w.heap[k]? from fun k hk hne hn=>(Below.heap_setCell n0 ⟨gl,0,none⟩ (.slice o8 ys.length o9) k hne).trans (n7.out k hk hn))
   have HS5:=aM (show w.heap.size≤(n0.setCell ⟨gl,0,none⟩ (.slice o8 ys.length o9)).heap.size by simpa using HS4.out)
   clear n8 o0 n9 n7 HS4 HLO4 BL4 hHeld;generalize n0.setCell ⟨gl,0,none⟩ (.slice o8 ys.length o9)=r7 at BL5 p7 p9 r5 r6 HS5 ⊢;go_wp2_with (first|((with_reducible refine gate_callee (f:=34) rfl ?_);refine goesL_ (some 23) rfl rfl Try.func34 (by kernel_rfl) rfl #[.int .i64 0] rfl (by first|exact mA|(simp [Act.eval];done)) ?_;refine(Czf.calls k 0 g4 g5 g6 _ NU.out).mono ?_;rintro e r8 ⟨z1,z2,rfl,l6,l7,hb⟩;refine⟨_,rfl,?_⟩;have r9:=aM hb;have L5:=aM (show d8 < r7.heap.size from blk_lt p9.out);have t4:=aM (blk_below p9.out hb);have HZ1:=aM l6;have HZ2:=aM l7;clear l6 l7 hb p9;obtain⟨Bo1,do1,t5⟩:=Kd.R_slice HZ1.out;subst t5;obtain⟨Bo2,do2,t6⟩:=Kd.R_slice HZ2.out;subst t6;obtain⟨p0,t7,t8,p4,t9,y9⟩:=bk3 t4))
   refine rC d8 33 #[.bool g4,.slice Bo1 g5.length do1,.slice Bo2 g6.length do2] (blk_put (blk_put (blk_put t4.out 0 (.bool g4) rfl) 1 (.slice Bo1 g5.length do1) rfl) 2 (.slice Bo2 g6.length do2) rfl) Try.underlying33 ?_
   have far3:∀ k,k≠d8→(((r8.setCell ⟨d8,0,none⟩ (.bool g4)).setCell ⟨d8,1,none⟩ (.slice Bo1 g5.length do1)).setCell ⟨d8,2,none⟩ (.slice Bo2 g6.length do2)).heap[k]?=r8.heap[k]?:=fun k hk=>(Below.heap_setCell _ ⟨d8,2,none⟩ _ k hk).trans ((Below.heap_setCell _ ⟨d8,1,none⟩ _ k hk).trans (Below.heap_setCell _ ⟨d8,0,none⟩ _ k hk))
   have hsz:(((r8.setCell ⟨d8,0,none⟩ (.bool g4)).setCell ⟨d8,1,none⟩ (.slice Bo1 g5.length do1)).setCell ⟨d8,2,none⟩ (.slice Bo2 g6.length do2)).heap.size=r8.heap.size:=by simp
   have z3:∀ k,k < w.heap.size→k≠d8:=fun k hk he=>absurd G6.out (by rw[← he];exact Nat.not_le.2 hk)
   have z4:=Nat.le_trans a9.out.size G6.out;refine⟨⟨_,_,.slice o8 ys.length o9,fun k=>(okl k∨(w.heap.size≤k∧k≠d8))∧k < r7.heap.size,rfl,?_,?_,?_,?_,?_,?_,?_⟩⟩
   ·exact((((below_then r5.out r5.out.size r9.out).setCell (p:=⟨d8,0,none⟩) z4 _).setCell (p:=⟨d8,1,none⟩) z4 _).setCell (p:=⟨d8,2,none⟩) z4 _)
   ·rw[hsz];exact Nat.le_trans HS5.out r9.out.size
   ·exact fun k hk hne hn=>(far3 k (z3 k hk)).trans ((r9.out.block k (Nat.lt_of_lt_of_le hk HS5.out)).trans (r6.out k hk hne hn))
   ·exact fun k hk=>hk.1.elim .inl (fun h=>.inr h.1)
   ·exact fun k hk=>by rw[hsz];exact Nat.lt_of_lt_of_le hk.2 r9.out.size
   ·have hf:∀ k,r7.heap.size≤k→k≠d8:=fun k hk he=>absurd L5.out (by rw[← he];exact Nat.not_lt.2 hk)
    exact Kd.FK_mono (Kd.FK_step (FK_of_R (ok:=fun k=>r7.heap.size≤k) HZ1.out HZ2.out (fun k hk _=>hk)) (fun k hk _=>far3 k (hf k hk))) (fun k hk=>⟨Nat.le_trans HS5.out hk,fun h=>absurd h.2 (Nat.not_lt.2 hk)⟩)
   ·intro _;refine⟨(far3 gl (z3 gl (blk_lt HLB.out))).trans ((r9.out.block gl (blk_lt BL5.out)).trans BL5.out),?_⟩;rw[← YS.out];exact Kd.N_step (Kd.N_below (Kd.N_bound p7.out) r9.out) (fun k hk _=>far3 k (hk.1.elim (fun h=>z3 k (HOK.out k h).2) (fun h=>h.2)))
  ·have hz2:(mass == 0)=false:=beq_eq_false_iff_ne.mpr hz;have h:=H.out;simp only[if_neg hz] at h;rw[Option.bind_eq_some_iff] at h;obtain⟨⟨z5,z6,z7⟩,hnu,h⟩:=h;rw[Option.bind_eq_some_iff] at h;obtain⟨⟨z8,z9,B0,B5⟩,hmu,h⟩:=h;have NU:=aM hnu;have MU:=aM hmu;replace H:=aM h;clear hnu hmu h;go_upto_region 4 with (fail)
   clear e8 e9 f3 f4 f5 f6;go_cut [8,9] (fun B9 C0 wc=>∃ (C1:Nat) (C2 C3:Option Addr) (f1 f2:Nat),B9=.pointer (some ⟨C1,0,none⟩)∧C0=.int .i64 B5∧Aside0 (wc.heap[C1]?=some (.cells #[.bool z8,.slice C2 z9.length f1,.slice C3 B0.length f2] 33 (0,0)))∧Aside0 (rI wc w (fun _=>True) (.slice C2 z9.length f1) z9)∧Aside0 (rI wc w (fun _=>True) (.slice C3 B0.length f2) B0)∧Aside0 (wc.heap[d8]?=some (.cells #[.bool false,.slice none 0 0,.slice none 0 0] 33 (0,0)))∧Aside0 (d8≠C1)∧Aside0 (w.heap.size≤C1)∧Aside0 (bw w wc))
   case first =>
    have HB_w2:=aM HB.out.drew;have C4:=aM (blk_drew e6.out);refine start_ (n:=14) (S:=fun W=>W.cell? ⟨gl,0,none⟩=some u∧W.cell? ⟨gt,1,none⟩=some (.slice (some ad) l.length c)∧W.cell? ⟨gm,0,none⟩=some (.int .i64 mass)∧W.cell? (ad.add (j.toNat * 3))=some (.bool (rd_T33 l j).f0)∧W.cell? ⟨(ad.add (j.toNat * 3)).block,(ad.add (j.toNat * 3)).off+1,none⟩=some (.slice b4 (rd_T33 l j).f1.length b5)∧W.cell? ⟨(ad.add (j.toNat * 3)).block,(ad.add (j.toNat * 3)).off+2,none⟩=some (.slice b6 (rd_T33 l j).f2.length c2)) (ds:=[]) (bA 14 0) (by kernel_rfl) rfl rfl (HS.out _ (HLO.out _ HB_w2.out)) (fun hHeld=>?_)
    generalize d9.drew=j7 at HB_w2 C4 hHeld ⊢;clear HB e6;refine pV 0 25 (bA 14 1) ?_;refine tV 1 26 (bA 14 3) hHeld ?_;refine pV 2 27 (bA 14 7) ?_;refine pV 3 28 (bA 14 15) ?_;refine tV 4 29 (bA 14 31) hHeld ?_;refine tV 5 30 (bA 14 63) hHeld ?_;refine two_ (i:=6) (j:=11) (Ni:=some 31) (Nj:=some 8) (bA 14 127) (bA 14 2111) rfl rfl rfl rfl (by kernel_rfl) (by decide) (by decide) (fun K hK=>?_) (fun K hK=>?_)
    ·refine goes_ Try.func34 (by kernel_rfl) rfl #[.int .i64 mass] (by rfl) rfl rfl mA ?_
     refine(Czf.calls k mass z5 z6 z7 _ NU.out).mono ?_;rintro e C6 ⟨j9,l5,rfl,l6,l7,hb⟩;refine⟨_,rfl,?_⟩;obtain⟨M1,d1,t5⟩:=Kd.R_slice l6;subst t5;obtain⟨M2,d2,t6⟩:=Kd.R_slice l7;subst t6;have HB_w25:=aM (below_then HB_w2.out HB_w2.out.size hb);have C7:=aM (blk_below C4.out hb);have HM_w25:=aM (And.intro (Kd.R_reads' l6).2.1 (And.intro (Kd.R_reads' l6).2.2 (And.intro (Kd.R_reads' l7).2.1 (Kd.R_reads' l7).2.2)));clear l6 l7 hb;refine hK.out _ _ (HS.out _ (HLO.out _ HB_w25.out)) (fun hHeld=>?_)
     clear hK K;refine nm 31 ?_;refine two_ (i:=7) (j:=11) (Ni:=some 32) (Nj:=some 8) (bA 14 255) (bA 14 2175) rfl rfl rfl rfl (by kernel_rfl) (by decide) (by decide) (fun K hK=>?_) (fun K hK=>?_)
     ·refine goes_ Try.func51 (by kernel_rfl) rfl #[.agg #[.bool (rd_T33 l j).f0,.slice b4 (rd_T33 l j).f1.length b5,.slice b6 (rd_T33 l j).f2.length c2],.agg #[.bool z5,.slice M1 z6.length d1,.slice M2 z7.length d2]] (by rfl) rfl rfl mA ?_
      refine(Dzm.calls k _ b4 b5 _ b6 c2 _ _ M1 d1 _ M2 d2 _ z8 z9 B0 B5 _ (Kd.C_below HE.out.2.1 HB_w25.out) HE.out.1 (Kd.C_below HE.out.2.2.2 HB_w25.out) HE.out.2.2.1 HM_w25.out.2.1 HM_w25.out.1 HM_w25.out.2.2.2 HM_w25.out.2.2.1 MU.out).mono ?_;rintro e C8 ⟨j9,l5,rfl,l6,l7,hb⟩;refine⟨_,rfl,?_⟩;obtain⟨C2,f1,t5⟩:=Kd.R_slice l6;subst t5;obtain⟨C3,f2,t6⟩:=Kd.R_slice l7;subst t6;have HB_w26:=aM (below_then HB_w25.out HB_w25.out.size hb);have C9:=aM (blk_below C7.out hb);have HM_w26:=aM (And.intro HM_w25.out.1 (And.intro (Kd.C_below HM_w25.out.2.1 hb) (And.intro HM_w25.out.2.2.1 (Kd.C_below HM_w25.out.2.2.2 hb))));have D2:=aM (Kd.R_mono (ok':=fun _=>True) (Kd.R_lower l6 HB_w25.out.size) (fun _ _=>trivial))
      have D3:=aM (Kd.R_mono (ok':=fun _=>True) (Kd.R_lower l7 HB_w25.out.size) (fun _ _=>trivial))
      clear l6 l7 hb;refine hK.out _ _ (HS.out _ (HLO.out _ HB_w26.out)) (fun hHeld=>?_)
      clear hK K;refine nm 32 ?_;refine pV 8 24 (bA 14 511) ?_;refine pV 9 33 (bA 14 1023) ?_;refine pV 10 34 (bA 14 2047) ?_;refine one_ (i:=11) (N:=some 8) (bA 14 4095) rfl rfl (by kernel_rfl) (by decide) (fun K hK=>?_)
      refine box_step ?hg (N:=8) ?hd (cs:=#[.bool false,.slice none 0 0,.slice none 0 0]) (t:=33) ?hr ?_;(case hd=>rfl);(case hg=>rfl);(case hr=>first|(go_simp;done)|(go_simp;rfl))
      intro gbn hg D4 hbox hb;have Gn:=aM (show w.heap.size≤gbn by rw[hg];exact HB_w26.out.size)
      have Nn:=aM (show d8≠gbn by rw[hg];exact Nat.ne_of_lt (blk_lt C9.out))
      clear hg;have HB_w27:=aM (below_then HB_w26.out HB_w26.out.size hb);have D5:=aM (blk_below C9.out hb);have HM_w27:=aM (And.intro HM_w26.out.1 (And.intro (Kd.C_below HM_w26.out.2.1 hb) (And.intro HM_w26.out.2.2.1 (Kd.C_below HM_w26.out.2.2.2 hb))));have D6:=aM (Kd.R_below D2.out hb);have D7:=aM (Kd.R_below D3.out hb);have BKn_w27:=aM hbox;clear hbox hb;refine hK.out _ _ (HS.out _ (HLO.out _ HB_w27.out)) (fun hHeld=>?_)
      clear hK K;refine nm 8 ?_;refine one_ (i:=12) (N:=none) (bA 14 8191) rfl rfl (by kernel_rfl) (by decide) (fun K hK=>?_)
      obtain⟨p0,t7,t8,p4,t9,y9⟩:=bk3 BKn_w27;refine skip_ (w1:=?_) (by rfl) rfl ?_ ?_
      rotate_left
      ·go_simp
       rfl
      have HBz:=aM (((HB_w27.out.setCell (p:=⟨gbn,0,none⟩) Gn.out (.bool z8)).setCell (p:=⟨gbn,1,none⟩) Gn.out (.slice C2 z9.length f1)).setCell (p:=⟨gbn,2,none⟩) Gn.out (.slice C3 B0.length f2));have fr:∀ (v:Value) (xs:List Int) (base:Nat),Kd.R (Kd.int .i64) 3 D4 base (fun _=>True) v xs→Kd.R (Kd.int .i64) 3 (((D4.setCell ⟨gbn,0,none⟩ (.bool z8)).setCell ⟨gbn,1,none⟩ (.slice C2 z9.length f1)).setCell ⟨gbn,2,none⟩ (.slice C3 B0.length f2)) base (fun _=>True) v xs:=fun v xs base hv=>Kd.R_mono (Kd.R_far (p:=⟨gbn,2,none⟩) (Kd.R_far (p:=⟨gbn,1,none⟩) (Kd.R_far (p:=⟨gbn,0,none⟩) (Kd.R_types hv BKn_w27.out (by decide)) (fun _ hk=>hk.2) (.bool z8)) (fun _ hk=>hk.2) (.slice C2 z9.length f1)) (fun _ hk=>hk.2) (.slice C3 B0.length f2)) (fun _ _=>trivial)
      have HZ1:=aM (fr _ _ _ D6.out);have HZ2:=aM (fr _ _ _ D7.out);have D8:=aM (blk_far (p:=⟨gbn,2,none⟩) (blk_far (p:=⟨gbn,1,none⟩) (blk_far (p:=⟨gbn,0,none⟩) D5.out Nn.out (.bool z8)) Nn.out (.slice C2 z9.length f1)) Nn.out (.slice C3 B0.length f2));have BKz:=aM (blk_put (blk_put (blk_put BKn_w27.out 0 (.bool z8) rfl) 1 (.slice C2 z9.length f1) rfl) 2 (.slice C3 B0.length f2) rfl);refine hK.out _ _ (HS.out _ (HLO.out _ HBz.out)) (fun hHeld=>?_)
      clear hK K;refine pV 13 9 (bA 14 16383) ?_;refine done_ (by kernel_rfl) ?_
      go_wp2
      go_meet
      case rel=>exact⟨gbn,C2,C3,f1,f2,rfl,rfl,BKz,HZ1,HZ2,D8,Nn,Gn,HBz⟩
     ·refine box_step ?hg (N:=8) ?hd (cs:=#[.bool false,.slice none 0 0,.slice none 0 0]) (t:=33) ?hr ?_;(case hd=>rfl);(case hg=>rfl);(case hr=>first|(go_simp;done)|(go_simp;rfl))
      intro gbn hg D9 hbox hb;have Gn:=aM (show w.heap.size≤gbn by rw[hg];exact HB_w25.out.size)
      have Nn:=aM (show d8≠gbn by rw[hg];exact Nat.ne_of_lt (blk_lt C7.out))
      clear hg;have HB_w28:=aM (below_then HB_w25.out HB_w25.out.size hb);have E0:=aM (blk_below C7.out hb);have HM_w28:=aM (And.intro HM_w25.out.1 (And.intro (Kd.C_below HM_w25.out.2.1 hb) (And.intro HM_w25.out.2.2.1 (Kd.C_below HM_w25.out.2.2.2 hb))));have BKn_w28:=aM hbox;clear hbox hb;refine hK.out _ _ (HS.out _ (HLO.out _ HB_w28.out)) (fun hHeld=>?_)
      clear hK K;refine nm 8 ?_;refine one_ (i:=7) (N:=some 32) (bA 14 2303) rfl rfl (by kernel_rfl) (by decide) (fun K hK=>?_)
      refine goes_ Try.func51 (by kernel_rfl) rfl #[.agg #[.bool (rd_T33 l j).f0,.slice b4 (rd_T33 l j).f1.length b5,.slice b6 (rd_T33 l j).f2.length c2],.agg #[.bool z5,.slice M1 z6.length d1,.slice M2 z7.length d2]] (by rfl) rfl rfl mA ?_
      refine(Dzm.calls k _ b4 b5 _ b6 c2 _ _ M1 d1 _ M2 d2 _ z8 z9 B0 B5 _ (Kd.C_below HE.out.2.1 HB_w28.out) HE.out.1 (Kd.C_below HE.out.2.2.2 HB_w28.out) HE.out.2.2.1 HM_w28.out.2.1 HM_w28.out.1 HM_w28.out.2.2.2 HM_w28.out.2.2.1 MU.out).mono ?_;rintro e E1 ⟨j9,l5,rfl,l6,l7,hb⟩;refine⟨_,rfl,?_⟩;obtain⟨C2,f1,t5⟩:=Kd.R_slice l6;subst t5;obtain⟨C3,f2,t6⟩:=Kd.R_slice l7;subst t6;have HB_w29:=aM (below_then HB_w28.out HB_w28.out.size hb);have E2:=aM (blk_below E0.out hb);have BKn_w29:=aM (blk_below BKn_w28.out hb);have HM_w29:=aM (And.intro HM_w28.out.1 (And.intro (Kd.C_below HM_w28.out.2.1 hb) (And.intro HM_w28.out.2.2.1 (Kd.C_below HM_w28.out.2.2.2 hb))));have E3:=aM (Kd.R_mono (ok':=fun _=>True) (Kd.R_lower l6 HB_w28.out.size) (fun _ _=>trivial))
      have E4:=aM (Kd.R_mono (ok':=fun _=>True) (Kd.R_lower l7 HB_w28.out.size) (fun _ _=>trivial))
      clear l6 l7 hb;refine hK.out _ _ (HS.out _ (HLO.out _ HB_w29.out)) (fun hHeld=>?_)
      clear hK K;refine nm 32 ?_;refine pV 8 24 (bA 14 2559) ?_;refine pV 9 33 (bA 14 3071) ?_;refine pV 10 34 (bA 14 4095) ?_;refine one_ (i:=12) (N:=none) (bA 14 8191) rfl rfl (by kernel_rfl) (by decide) (fun K hK=>?_)
      obtain⟨p0,t7,t8,p4,t9,y9⟩:=bk3 BKn_w29;refine skip_ (w1:=?_) (by rfl) rfl ?_ ?_
      rotate_left
      ·go_simp
       rfl
      have HBz:=aM (((HB_w29.out.setCell (p:=⟨gbn,0,none⟩) Gn.out (.bool z8)).setCell (p:=⟨gbn,1,none⟩) Gn.out (.slice C2 z9.length f1)).setCell (p:=⟨gbn,2,none⟩) Gn.out (.slice C3 B0.length f2));have fr:∀ (v:Value) (xs:List Int) (base:Nat),Kd.R (Kd.int .i64) 3 E1 base (fun _=>True) v xs→Kd.R (Kd.int .i64) 3 (((E1.setCell ⟨gbn,0,none⟩ (.bool z8)).setCell ⟨gbn,1,none⟩ (.slice C2 z9.length f1)).setCell ⟨gbn,2,none⟩ (.slice C3 B0.length f2)) base (fun _=>True) v xs:=fun v xs base hv=>Kd.R_mono (Kd.R_far (p:=⟨gbn,2,none⟩) (Kd.R_far (p:=⟨gbn,1,none⟩) (Kd.R_far (p:=⟨gbn,0,none⟩) (Kd.R_types hv BKn_w29.out (by decide)) (fun _ hk=>hk.2) (.bool z8)) (fun _ hk=>hk.2) (.slice C2 z9.length f1)) (fun _ hk=>hk.2) (.slice C3 B0.length f2)) (fun _ _=>trivial)
      have HZ1:=aM (fr _ _ _ E3.out);have HZ2:=aM (fr _ _ _ E4.out);have D8:=aM (blk_far (p:=⟨gbn,2,none⟩) (blk_far (p:=⟨gbn,1,none⟩) (blk_far (p:=⟨gbn,0,none⟩) E2.out Nn.out (.bool z8)) Nn.out (.slice C2 z9.length f1)) Nn.out (.slice C3 B0.length f2));have BKz:=aM (blk_put (blk_put (blk_put BKn_w29.out 0 (.bool z8) rfl) 1 (.slice C2 z9.length f1) rfl) 2 (.slice C3 B0.length f2) rfl);refine hK.out _ _ (HS.out _ (HLO.out _ HBz.out)) (fun hHeld=>?_)
      clear hK K;refine pV 13 9 (bA 14 16383) ?_;refine done_ (by kernel_rfl) ?_
      go_wp2
      go_meet
      case rel=>exact⟨gbn,C2,C3,f1,f2,rfl,rfl,BKz,HZ1,HZ2,D8,Nn,Gn,HBz⟩
    ·refine box_step ?hg (N:=8) ?hd (cs:=#[.bool false,.slice none 0 0,.slice none 0 0]) (t:=33) ?hr ?_;(case hd=>rfl);(case hg=>rfl);(case hr=>first|(go_simp;done)|(go_simp;rfl))
     intro gbn hg E5 hbox hb;have Gn:=aM (show w.heap.size≤gbn by rw[hg];exact HB_w2.out.size)
     have Nn:=aM (show d8≠gbn by rw[hg];exact Nat.ne_of_lt (blk_lt C4.out))
     clear hg;have HB_w30:=aM (below_then HB_w2.out HB_w2.out.size hb);have E6:=aM (blk_below C4.out hb);have BKn_w30:=aM hbox;clear hbox hb;refine hK.out _ _ (HS.out _ (HLO.out _ HB_w30.out)) (fun hHeld=>?_)
     clear hK K;refine nm 8 ?_;refine one_ (i:=6) (N:=some 31) (bA 14 2175) rfl rfl (by kernel_rfl) (by decide) (fun K hK=>?_)
     refine goes_ Try.func34 (by kernel_rfl) rfl #[.int .i64 mass] (by rfl) rfl rfl mA ?_
     refine(Czf.calls k mass z5 z6 z7 _ NU.out).mono ?_;rintro e E7 ⟨j9,l5,rfl,l6,l7,hb⟩;refine⟨_,rfl,?_⟩;obtain⟨M1,d1,t5⟩:=Kd.R_slice l6;subst t5;obtain⟨M2,d2,t6⟩:=Kd.R_slice l7;subst t6;have HB_w31:=aM (below_then HB_w30.out HB_w30.out.size hb);have E8:=aM (blk_below E6.out hb);have BKn_w31:=aM (blk_below BKn_w30.out hb);have HM_w31:=aM (And.intro (Kd.R_reads' l6).2.1 (And.intro (Kd.R_reads' l6).2.2 (And.intro (Kd.R_reads' l7).2.1 (Kd.R_reads' l7).2.2)));clear l6 l7 hb;refine hK.out _ _ (HS.out _ (HLO.out _ HB_w31.out)) (fun hHeld=>?_)
     clear hK K;refine nm 31 ?_;refine one_ (i:=7) (N:=some 32) (bA 14 2303) rfl rfl (by kernel_rfl) (by decide) (fun K hK=>?_)
     refine goes_ Try.func51 (by kernel_rfl) rfl #[.agg #[.bool (rd_T33 l j).f0,.slice b4 (rd_T33 l j).f1.length b5,.slice b6 (rd_T33 l j).f2.length c2],.agg #[.bool z5,.slice M1 z6.length d1,.slice M2 z7.length d2]] (by rfl) rfl rfl mA ?_
     refine(Dzm.calls k _ b4 b5 _ b6 c2 _ _ M1 d1 _ M2 d2 _ z8 z9 B0 B5 _ (Kd.C_below HE.out.2.1 HB_w31.out) HE.out.1 (Kd.C_below HE.out.2.2.2 HB_w31.out) HE.out.2.2.1 HM_w31.out.2.1 HM_w31.out.1 HM_w31.out.2.2.2 HM_w31.out.2.2.1 MU.out).mono ?_;rintro e E9 ⟨j9,l5,rfl,l6,l7,hb⟩;refine⟨_,rfl,?_⟩;obtain⟨C2,f1,t5⟩:=Kd.R_slice l6;subst t5;obtain⟨C3,f2,t6⟩:=Kd.R_slice l7;subst t6;have HB_w32:=aM (below_then HB_w31.out HB_w31.out.size hb);have F0:=aM (blk_below E8.out hb);have BKn_w32:=aM (blk_below BKn_w31.out hb);have HM_w32:=aM (And.intro HM_w31.out.1 (And.intro (Kd.C_below HM_w31.out.2.1 hb) (And.intro HM_w31.out.2.2.1 (Kd.C_below HM_w31.out.2.2.2 hb))));have F2:=aM (Kd.R_mono (ok':=fun _=>True) (Kd.R_lower l6 HB_w31.out.size) (fun _ _=>trivial))
     have F3:=aM (Kd.R_mono (ok':=fun _=>True) (Kd.R_lower l7 HB_w31.out.size) (fun _ _=>trivial))
     clear l6 l7 hb;refine hK.out _ _ (HS.out _ (HLO.out _ HB_w32.out)) (fun hHeld=>?_)
     clear hK K;refine nm 32 ?_;refine pV 8 24 (bA 14 2559) ?_;refine pV 9 33 (bA 14 3071) ?_;refine pV 10 34 (bA 14 4095) ?_;refine one_ (i:=12) (N:=none) (bA 14 8191) rfl rfl (by kernel_rfl) (by decide) (fun K hK=>?_)
     obtain⟨p0,t7,t8,p4,t9,y9⟩:=bk3 BKn_w32;refine skip_ (w1:=?_) (by rfl) rfl ?_ ?_
     rotate_left
     ·go_simp
      rfl
     have HBz:=aM (((HB_w32.out.setCell (p:=⟨gbn,0,none⟩) Gn.out (.bool z8)).setCell (p:=⟨gbn,1,none⟩) Gn.out (.slice C2 z9.length f1)).setCell (p:=⟨gbn,2,none⟩) Gn.out (.slice C3 B0.length f2));have fr:∀ (v:Value) (xs:List Int) (base:Nat),Kd.R (Kd.int .i64) 3 E9 base (fun _=>True) v xs→Kd.R (Kd.int .i64) 3 (((E9.setCell ⟨gbn,0,none⟩ (.bool z8)).setCell ⟨gbn,1,none⟩ (.slice C2 z9.length f1)).setCell ⟨gbn,2,none⟩ (.slice C3 B0.length f2)) base (fun _=>True) v xs:=fun v xs base hv=>Kd.R_mono (Kd.R_far (p:=⟨gbn,2,none⟩) (Kd.R_far (p:=⟨gbn,1,none⟩) (Kd.R_far (p:=⟨gbn,0,none⟩) (Kd.R_types hv BKn_w32.out (by decide)) (fun _ hk=>hk.2) (.bool z8)) (fun _ hk=>hk.2) (.slice C2 z9.length f1)) (fun _ hk=>hk.2) (.slice C3 B0.length f2)) (fun _ _=>trivial)
     have HZ1:=aM (fr _ _ _ F2.out);have HZ2:=aM (fr _ _ _ F3.out);have D8:=aM (blk_far (p:=⟨gbn,2,none⟩) (blk_far (p:=⟨gbn,1,none⟩) (blk_far (p:=⟨gbn,0,none⟩) F0.out Nn.out (.bool z8)) Nn.out (.slice C2 z9.length f1)) Nn.out (.slice C3 B0.length f2));have BKz:=aM (blk_put (blk_put (blk_put BKn_w32.out 0 (.bool z8) rfl) 1 (.slice C2 z9.length f1) rfl) 2 (.slice C3 B0.length f2) rfl);refine hK.out _ _ (HS.out _ (HLO.out _ HBz.out)) (fun hHeld=>?_)
     clear hK K;refine pV 13 9 (bA 14 16383) ?_;refine done_ (by kernel_rfl) ?_
     go_wp2
     go_meet
     case rel=>exact⟨gbn,C2,C3,f1,f2,rfl,rfl,BKz,HZ1,HZ2,D8,Nn,Gn,HBz⟩
   case rest =>
    obtain⟨C1,C2,C3,f1,f2,rfl,rfl,F4,F5,F6,F7,N68,G8,HBc⟩:=hcut;by_cases hr:B5=0
    ·subst hr;have h:=H.out;simp only[if_true] at h;rw[Option.bind_eq_some_iff] at h;obtain⟨⟨f7,f8,f9,F8⟩,hdv,h⟩:=h;have DV:=aM hdv;replace H:=aM h;clear hdv h;have BVc:=aM ((HLO.out _ HBc.out gv HG.out.2.2.2.2.2).trans HVB.out);have HLc:=aM (And.intro (Kd.C_below HCL.out.2.1 HBc.out) (Kd.C_below HCL.out.2.2.2 HBc.out));obtain⟨p0,t7,t8,p4,t9,y9⟩:=bk3 F4;obtain⟨hdz_0,hdz_1,hdz_2,hgz_0,hgz_1,hgz_2⟩:=bk3 BVc;go_upto_region 8 with (first|((with_reducible refine gate_callee (f:=52) rfl ?_);refine goesL_ (some 42) rfl rfl Try.func52 (by kernel_rfl) rfl #[.agg #[.bool z8,.slice C2 z9.length f1,.slice C3 B0.length f2],.agg #[.bool lb,.slice L1 l1.length cL1,.slice L2 l2.length cL2]] rfl (by first|exact mA|(simp [Act.eval];done)) ?_;refine(Fzf.calls k z8 _ C2 f1 z9 _ C3 f2 B0 lb (fun k_=>k_ < wc.heap.size) L1 cL1 l1 (fun k_=>k_ < wc.heap.size) L2 cL2 l2 f7 f8 f9 F8 wc (Kd.R_V (Kd.R_tight rfl F5.out)) (Kd.R_V (Kd.R_tight rfl F6.out)) (Kd.V_mk HCL.out.1 (Kd.C_F (Kd.heap_int .i64) HLc.out.1)) (Kd.V_mk HCL.out.2.2.1 (Kd.C_F (Kd.heap_int .i64) HLc.out.2)) DV.out).mono ?_;rintro e E5 ⟨j9,l5,rfl,l6,l7,hb⟩;refine⟨_,rfl,?_⟩;obtain⟨X1,g1,t5⟩:=Kd.R_slice l6;subst t5;obtain⟨X2,g2,t6⟩:=Kd.R_slice l7;subst t6;have F9:=aM (Kd.R_mono (ok':=fun _=>True) (Kd.R_lower l6 HBc.out.size) (fun _ _=>trivial));have G5:=aM (Kd.R_mono (ok':=fun _=>True) (Kd.R_lower l7 HBc.out.size) (fun _ _=>trivial));have G9:=aM (below_then HBc.out HBc.out.size hb);have H5:=aM (blk_below F7.out hb);clear l6 l7 hb p0 t7 t8 p4 t9 y9 hdz_0 hdz_1 hdz_2 hgz_0 hgz_1 hgz_2 F5 F6 BVc HLc F4 HBc F7)|((with_reducible refine gd 10 rfl ?_);refine bz 33 ?_;intro H6 hg E7 H7 hb;have G10:=aM (show w.heap.size≤H6 by rw[hg];exact G9.out.size);have N610:=aM (show d8≠H6 by rw[hg];exact Nat.ne_of_lt (blk_lt H5.out));have H8:=aM (below_then G9.out G9.out.size hb);have H9:=aM (blk_below H5.out hb);have HY1:=aM (Kd.R_below F9.out hb);have HY2:=aM (Kd.R_below G5.out hb);clear hb hg F9 G5 G9 H5;obtain⟨p0,t7,t8,p4,t9,y9⟩:=bk3 H7))
     have fr:∀ (v:Value) (xs:List Int),rI E7 w (fun _=>True) v xs→Kd.R (Kd.int .i64) 3 (((E7.setCell ⟨H6,0,none⟩ (.bool f7)).setCell ⟨H6,1,none⟩ (.slice X1 f8.length g1)).setCell ⟨H6,2,none⟩ (.slice X2 f9.length g2)) w.heap.size (fun _=>True) v xs:=fun v xs hv=>Kd.R_mono (Kd.R_far (p:=⟨H6,2,none⟩) (Kd.R_far (p:=⟨H6,1,none⟩) (Kd.R_far (p:=⟨H6,0,none⟩) (Kd.R_types hv H7.out (by decide)) (fun _ hk=>hk.2) _) (fun _ hk=>hk.2) _) (fun _ hk=>hk.2) _) (fun _ _=>trivial)
     have F9:=aM (fr _ _ HY1.out);have G5:=aM (fr _ _ HY2.out);have I0:=aM (blk_put (blk_put (blk_put H7.out 0 (.bool f7) rfl) 1 (.slice X1 f8.length g1) rfl) 2 (.slice X2 f9.length g2) rfl);have I3:=aM (blk_far (p:=⟨H6,2,none⟩) (blk_far (p:=⟨H6,1,none⟩) (blk_far (p:=⟨H6,0,none⟩) H9.out N610.out (.bool f7)) N610.out (.slice X1 f8.length g1)) N610.out (.slice X2 f9.length g2));have I4:=aM (((H8.out.setCell (p:=⟨H6,0,none⟩) G10.out (.bool f7)).setCell (p:=⟨H6,1,none⟩) G10.out (.slice X1 f8.length g1)).setCell (p:=⟨H6,2,none⟩) G10.out (.slice X2 f9.length g2));clear fr HY1 HY2 H7 H9 H8 p0 t7 t8 p4 t9 y9;generalize (((E7.setCell { block:=H6,off:=0 } (Value.bool f7)).setCell { block:=H6,off:=1 } (Value.slice X1 f8.length g1)).setCell { block:=H6,off:=2 } (Value.slice X2 f9.length g2))=E9 at F9 G5 I0 I3 I4 ⊢;by_cases hr:F8=0
     ·subst hr;have h:=H.out;simp only[if_true] at h;rw[Option.bind_eq_some_iff] at h;obtain⟨⟨I5,I6,I7,I8⟩,hts,h⟩:=h;injection h with h
      injection h with g7 h
      injection h with g8 g9
      injection g8 with j3 j4 j5
      simp only at g7 g9 j3 j4 j5;subst g7 g9 j3 j4 j5;have TS:=aM hts;clear hts;have HXC:=aM (And.intro (Kd.R_reads' F9.out).2.1 (And.intro (Kd.R_reads' F9.out).2.2 (And.intro (Kd.R_reads' G5.out).2.1 (Kd.R_reads' G5.out).2.2)));have XF:=aM (FK_own f7 F9.out G5.out);have XO:=aM (show ∀ k,(some k=(.slice X1 f8.length g1:Value).ownBlock∨some k=(.slice X2 f9.length g2:Value).ownBlock)→w.heap.size≤k∧k < E9.heap.size∧k≠d8 from fun k hk=>hk.elim (fun h=>⟨Kd.R_base F9.out k h.symm,Kd.R_lt F9.out k h.symm,fun he=>Kd.R_ne F9.out I3.out (by decide) (he ▸ h)⟩) (fun h=>⟨Kd.R_base G5.out k h.symm,Kd.R_lt G5.out k h.symm,fun he=>Kd.R_ne G5.out I3.out (by decide) (he ▸ h)⟩))
      have hS2:∀ W:World,Below E9.heap.size E9 W→W.cell? ⟨gl,0,none⟩=some u∧W.cell? ⟨gt,1,none⟩=some (.slice (some ad) l.length c)∧W.cell? ⟨gm,0,none⟩=some (.int .i64 mass)∧W.cell? (ad.add (j.toNat * 3))=some (.bool (rd_T33 l j).f0)∧W.cell? ⟨(ad.add (j.toNat * 3)).block,(ad.add (j.toNat * 3)).off+1,none⟩=some (.slice b4 (rd_T33 l j).f1.length b5)∧W.cell? ⟨(ad.add (j.toNat * 3)).block,(ad.add (j.toNat * 3)).off+2,none⟩=some (.slice b6 (rd_T33 l j).f2.length c2)∧W.cell? ⟨H6,0,none⟩=some (.bool f7)∧W.cell? ⟨H6,1,none⟩=some (.slice X1 f8.length g1)∧W.cell? ⟨H6,2,none⟩=some (.slice X2 f9.length g2):=fun W hW=>by
       obtain⟨e8,e9,f3,f4,f5,f6⟩:=HS.out W (HLO.out W (below_then I4.out I4.out.size hW));obtain⟨I9,I5,I6,_⟩:=bk3 I0;exact⟨e8,e9,f3,f4,f5,f6,pw_cell_below hW I9,pw_cell_below hW I5,pw_cell_below hW I6⟩
      have HS2:=aM hS2;clear hS2;go_upto_region 10 with (fail)
      go_cut [11,9] (fun J0 C0 wc=>∃ (J1:Nat) (C2 C3:Option Addr) (f1 f2:Nat),J0=.pointer (some ⟨J1,0,none⟩)∧C0=.int .i64 I8∧Aside0 (wc.heap[J1]?=some (.cells #[.bool I5,.slice C2 I6.length f1,.slice C3 I7.length f2] 33 (0,0)))∧Aside0 (Kd.R (Kd.int .i64) 3 wc E9.heap.size (fun _=>True) (.slice C2 I6.length f1) I6)∧Aside0 (Kd.R (Kd.int .i64) 3 wc E9.heap.size (fun _=>True) (.slice C3 I7.length f2) I7)∧Aside0 (E9.heap.size≤J1)∧Aside0 (Below E9.heap.size E9 wc))
      case first =>
       have HB_w33:=aM (Below.refl E9.heap.size E9).drew;refine start_ (n:=13) (S:=fun W=>W.cell? ⟨gl,0,none⟩=some u∧W.cell? ⟨gt,1,none⟩=some (.slice (some ad) l.length c)∧W.cell? ⟨gm,0,none⟩=some (.int .i64 mass)∧W.cell? (ad.add (j.toNat * 3))=some (.bool (rd_T33 l j).f0)∧W.cell? ⟨(ad.add (j.toNat * 3)).block,(ad.add (j.toNat * 3)).off+1,none⟩=some (.slice b4 (rd_T33 l j).f1.length b5)∧W.cell? ⟨(ad.add (j.toNat * 3)).block,(ad.add (j.toNat * 3)).off+2,none⟩=some (.slice b6 (rd_T33 l j).f2.length c2)∧W.cell? ⟨H6,0,none⟩=some (.bool f7)∧W.cell? ⟨H6,1,none⟩=some (.slice X1 f8.length g1)∧W.cell? ⟨H6,2,none⟩=some (.slice X2 f9.length g2)) (ds:=[]) (bA 13 0) (by kernel_rfl) rfl rfl (HS2.out _ HB_w33.out) (fun hHeld=>?_)
       generalize E9.drew=J2 at HB_w33 hHeld ⊢;refine pV 0 50 (bA 13 1) ?_;refine tV 1 51 (bA 13 3) hHeld ?_;refine pV 2 52 (bA 13 7) ?_;refine pV 3 53 (bA 13 15) ?_;refine tV 4 54 (bA 13 31) hHeld ?_;refine tV 5 55 (bA 13 63) hHeld ?_;refine two_ (i:=6) (j:=10) (Ni:=some 56) (Nj:=some 11) (bA 13 127) (bA 13 1087) rfl rfl rfl rfl (by kernel_rfl) (by decide) (by decide) (fun K hK=>?_) (fun K hK=>?_)
       ·have HE_w33:=aM (below_then I4.out I4.out.size HB_w33.out);refine goes_ Try.func53 (by kernel_rfl) rfl #[.agg #[.bool (rd_T33 l j).f0,.slice b4 (rd_T33 l j).f1.length b5,.slice b6 (rd_T33 l j).f2.length c2],.agg #[.bool f7,.slice X1 f8.length g1,.slice X2 f9.length g2]] (by rfl) rfl rfl mA ?_
        refine(Fzv.calls k _ (fun k_=>k_ < w.heap.size) b4 b5 _ (fun k_=>k_ < w.heap.size) b6 c2 _ f7 (fun k_=>k_ < E9.heap.size) X1 g1 f8 (fun k_=>k_ < E9.heap.size) X2 g2 f9 I5 I6 I7 I8 _ (Kd.V_mk HE.out.1 (Kd.F_below (Kd.C_F (Kd.heap_int .i64) HE.out.2.1) HE_w33.out)) (Kd.V_mk HE.out.2.2.1 (Kd.F_below (Kd.C_F (Kd.heap_int .i64) HE.out.2.2.2) HE_w33.out)) (Kd.V_mk HXC.out.1 (Kd.F_below (Kd.C_F (Kd.heap_int .i64) HXC.out.2.1) HB_w33.out)) (Kd.V_mk HXC.out.2.2.1 (Kd.F_below (Kd.C_F (Kd.heap_int .i64) HXC.out.2.2.2) HB_w33.out)) TS.out).mono ?_
        rintro e J6 ⟨j9,l5,rfl,l6,l7,hb⟩;refine⟨_,rfl,?_⟩;obtain⟨C2,f1,t5⟩:=Kd.R_slice l6;subst t5;obtain⟨C3,f2,t6⟩:=Kd.R_slice l7;subst t6;have HB_w21:=aM (below_then HB_w33.out HB_w33.out.size hb);have J7:=aM (Kd.R_mono (ok':=fun _=>True) (Kd.R_lower l6 HB_w33.out.size) (fun _ _=>trivial))
        have J8:=aM (Kd.R_mono (ok':=fun _=>True) (Kd.R_lower l7 HB_w33.out.size) (fun _ _=>trivial))
        clear l6 l7 hb;refine hK.out _ _ (HS2.out _ HB_w21.out) (fun hHeld=>?_)
        clear hK K;refine nm 56 ?_;refine pV 7 49 (bA 13 255) ?_;refine pV 8 57 (bA 13 511) ?_;refine pV 9 58 (bA 13 1023) ?_;refine one_ (i:=10) (N:=some 11) (bA 13 2047) rfl rfl (by kernel_rfl) (by decide) (fun K hK=>?_)
        refine box_step ?hg (N:=11) ?hd (cs:=#[.bool false,.slice none 0 0,.slice none 0 0]) (t:=33) ?hr ?_;(case hd=>rfl);(case hg=>rfl);(case hr=>first|(go_simp;done)|(go_simp;rfl))
        intro gbn hg J9 hbox hb;have Gn:=aM (show E9.heap.size≤gbn by rw[hg];exact HB_w21.out.size)
        clear hg;have HB_w22:=aM (below_then HB_w21.out HB_w21.out.size hb);have K0:=aM (Kd.R_below J7.out hb);have K1:=aM (Kd.R_below J8.out hb);have BKn_w22:=aM hbox;clear hbox hb;refine hK.out _ _ (HS2.out _ HB_w22.out) (fun hHeld=>?_)
        clear hK K;refine nm 11 ?_;refine one_ (i:=11) (N:=none) (bA 13 4095) rfl rfl (by kernel_rfl) (by decide) (fun K hK=>?_)
        obtain⟨p0,t7,t8,p4,t9,y9⟩:=bk3 BKn_w22;refine skip_ (w1:=?_) (by rfl) rfl ?_ ?_
        rotate_left
        ·go_simp
         rfl
        have HBz:=aM (((HB_w22.out.setCell (p:=⟨gbn,0,none⟩) Gn.out (.bool I5)).setCell (p:=⟨gbn,1,none⟩) Gn.out (.slice C2 I6.length f1)).setCell (p:=⟨gbn,2,none⟩) Gn.out (.slice C3 I7.length f2));have fr:∀ (v:Value) (xs:List Int) (base:Nat),Kd.R (Kd.int .i64) 3 J9 base (fun _=>True) v xs→Kd.R (Kd.int .i64) 3 (((J9.setCell ⟨gbn,0,none⟩ (.bool I5)).setCell ⟨gbn,1,none⟩ (.slice C2 I6.length f1)).setCell ⟨gbn,2,none⟩ (.slice C3 I7.length f2)) base (fun _=>True) v xs:=fun v xs base hv=>Kd.R_mono (Kd.R_far (p:=⟨gbn,2,none⟩) (Kd.R_far (p:=⟨gbn,1,none⟩) (Kd.R_far (p:=⟨gbn,0,none⟩) (Kd.R_types hv BKn_w22.out (by decide)) (fun _ hk=>hk.2) (.bool I5)) (fun _ hk=>hk.2) (.slice C2 I6.length f1)) (fun _ hk=>hk.2) (.slice C3 I7.length f2)) (fun _ _=>trivial)
        have HZ1:=aM (fr _ _ _ K0.out);have HZ2:=aM (fr _ _ _ K1.out);have BKz:=aM (blk_put (blk_put (blk_put BKn_w22.out 0 (.bool I5) rfl) 1 (.slice C2 I6.length f1) rfl) 2 (.slice C3 I7.length f2) rfl);refine hK.out _ _ (HS2.out _ HBz.out) (fun hHeld=>?_)
        clear hK K;refine pV 12 9 (bA 13 8191) ?_;refine done_ (by kernel_rfl) ?_
        go_wp2
        go_meet
        case rel=>exact⟨gbn,C2,C3,f1,f2,rfl,rfl,BKz,HZ1,HZ2,Gn,HBz⟩
       ·refine box_step ?hg (N:=11) ?hd (cs:=#[.bool false,.slice none 0 0,.slice none 0 0]) (t:=33) ?hr ?_;(case hd=>rfl);(case hg=>rfl);(case hr=>first|(go_simp;done)|(go_simp;rfl))
        intro gbn hg K2 hbox hb;have Gn:=aM (show E9.heap.size≤gbn by rw[hg];exact HB_w33.out.size)
        clear hg;have HB_w23:=aM (below_then HB_w33.out HB_w33.out.size hb);have BKn_w23:=aM hbox;clear hbox hb;refine hK.out _ _ (HS2.out _ HB_w23.out) (fun hHeld=>?_)
        clear hK K;refine nm 11 ?_;refine one_ (i:=6) (N:=some 56) (bA 13 1151) rfl rfl (by kernel_rfl) (by decide) (fun K hK=>?_)
        have HE_w23:=aM (below_then I4.out I4.out.size HB_w23.out);refine goes_ Try.func53 (by kernel_rfl) rfl #[.agg #[.bool (rd_T33 l j).f0,.slice b4 (rd_T33 l j).f1.length b5,.slice b6 (rd_T33 l j).f2.length c2],.agg #[.bool f7,.slice X1 f8.length g1,.slice X2 f9.length g2]] (by rfl) rfl rfl mA ?_
        refine(Fzv.calls k _ (fun k_=>k_ < w.heap.size) b4 b5 _ (fun k_=>k_ < w.heap.size) b6 c2 _ f7 (fun k_=>k_ < E9.heap.size) X1 g1 f8 (fun k_=>k_ < E9.heap.size) X2 g2 f9 I5 I6 I7 I8 _ (Kd.V_mk HE.out.1 (Kd.F_below (Kd.C_F (Kd.heap_int .i64) HE.out.2.1) HE_w23.out)) (Kd.V_mk HE.out.2.2.1 (Kd.F_below (Kd.C_F (Kd.heap_int .i64) HE.out.2.2.2) HE_w23.out)) (Kd.V_mk HXC.out.1 (Kd.F_below (Kd.C_F (Kd.heap_int .i64) HXC.out.2.1) HB_w23.out)) (Kd.V_mk HXC.out.2.2.1 (Kd.F_below (Kd.C_F (Kd.heap_int .i64) HXC.out.2.2.2) HB_w23.out)) TS.out).mono ?_
        rintro e K3 ⟨j9,l5,rfl,l6,l7,hb⟩;refine⟨_,rfl,?_⟩;obtain⟨C2,f1,t5⟩:=Kd.R_slice l6;subst t5;obtain⟨C3,f2,t6⟩:=Kd.R_slice l7;subst t6;have HB_w24:=aM (below_then HB_w23.out HB_w23.out.size hb);have BKn_w24:=aM (blk_below BKn_w23.out hb);have K4:=aM (Kd.R_mono (ok':=fun _=>True) (Kd.R_lower l6 HB_w23.out.size) (fun _ _=>trivial))
        have K5:=aM (Kd.R_mono (ok':=fun _=>True) (Kd.R_lower l7 HB_w23.out.size) (fun _ _=>trivial))
        clear l6 l7 hb;refine hK.out _ _ (HS2.out _ HB_w24.out) (fun hHeld=>?_)
        clear hK K;refine nm 56 ?_;refine pV 7 49 (bA 13 1279) ?_;refine pV 8 57 (bA 13 1535) ?_;refine pV 9 58 (bA 13 2047) ?_;refine one_ (i:=11) (N:=none) (bA 13 4095) rfl rfl (by kernel_rfl) (by decide) (fun K hK=>?_)
        obtain⟨p0,t7,t8,p4,t9,y9⟩:=bk3 BKn_w24;refine skip_ (w1:=?_) (by rfl) rfl ?_ ?_
        rotate_left
        ·go_simp
         rfl
        have HBz:=aM (((HB_w24.out.setCell (p:=⟨gbn,0,none⟩) Gn.out (.bool I5)).setCell (p:=⟨gbn,1,none⟩) Gn.out (.slice C2 I6.length f1)).setCell (p:=⟨gbn,2,none⟩) Gn.out (.slice C3 I7.length f2));have fr:∀ (v:Value) (xs:List Int) (base:Nat),Kd.R (Kd.int .i64) 3 K3 base (fun _=>True) v xs→Kd.R (Kd.int .i64) 3 (((K3.setCell ⟨gbn,0,none⟩ (.bool I5)).setCell ⟨gbn,1,none⟩ (.slice C2 I6.length f1)).setCell ⟨gbn,2,none⟩ (.slice C3 I7.length f2)) base (fun _=>True) v xs:=fun v xs base hv=>Kd.R_mono (Kd.R_far (p:=⟨gbn,2,none⟩) (Kd.R_far (p:=⟨gbn,1,none⟩) (Kd.R_far (p:=⟨gbn,0,none⟩) (Kd.R_types hv BKn_w24.out (by decide)) (fun _ hk=>hk.2) (.bool I5)) (fun _ hk=>hk.2) (.slice C2 I6.length f1)) (fun _ hk=>hk.2) (.slice C3 I7.length f2)) (fun _ _=>trivial)
        have HZ1:=aM (fr _ _ _ K4.out);have HZ2:=aM (fr _ _ _ K5.out);have BKz:=aM (blk_put (blk_put (blk_put BKn_w24.out 0 (.bool I5) rfl) 1 (.slice C2 I6.length f1) rfl) 2 (.slice C3 I7.length f2) rfl);refine hK.out _ _ (HS2.out _ HBz.out) (fun hHeld=>?_)
        clear hK K;refine pV 12 9 (bA 13 8191) ?_;refine done_ (by kernel_rfl) ?_
        go_wp2
        go_meet
        case rel=>exact⟨gbn,C2,C3,f1,f2,rfl,rfl,BKz,HZ1,HZ2,Gn,HBz⟩
      case rest =>
       obtain⟨J1,C2,C3,f1,f2,rfl,rfl,K6,K7,K8,G11,HBc⟩:=hcut;have HWc:=aM (below_then I4.out I4.out.size HBc.out);have BLc:=aM ((HLO.out _ HWc.out gl HG.out.2.2.2.1).trans HLB.out);obtain⟨p0,t7,t8,p4,t9,y9⟩:=bk3 K6;obtain⟨hdz_0,hgz_0⟩:=bk1 BLc;obtain⟨ys,hys⟩:∃ y_:List S33,y_=ls ++ [(⟨I5,I6,I7⟩:S33)]:=⟨_,rfl⟩;have YS:=aM hys;clear hys;have OKA:=aM (show ∀ k,(okl k∨E9.heap.size≤k)→B1≤k∧k≠d8 from fun k hk=>hk.elim (fun h=>⟨(HOK.out k h).1,fun he=>absurd (HOK.out k h).2 (by rw[he];exact Nat.not_lt.2 G6.out)⟩) (fun h=>⟨Nat.le_trans HG.out.2.1 (Nat.le_trans I4.out.size h),fun he=>absurd (blk_lt I3.out) (by rw[← he];exact Nat.not_lt.2 h)⟩))
       have HU:=aM (show ∀ k,u.ownBlock=some k→okl k∧k < w.heap.size from fun k hk=>⟨HN.out.1 k hk,Kd.N_lt HN.out k hk⟩)
       go_upto_region 12 with (first|((with_reducible refine gate_builtin (b:=.append) (xs:=#[.tmp 59,.tmp 61]) rfl ?_);at_builtin;refine Kd.N_append k33 (w0:=w0) w0.heap.size rfl (.tmp 59) (.tmp 61) 22 33 (.agg #[(.bool false),(.slice none 0 0),(.slice none 0 0)]) 56 rfl Try.underlying22 info33 rfl (by decide) (by omega) u ls (⟨I5,I6,I7⟩:S33) [.bool I5,.slice C2 I6.length f1,.slice C3 I7.length f2] (fun k=>okl k∨E9.heap.size≤k) (fun k=>(okl k∨E9.heap.size≤k)∧some k≠u.ownBlock) rfl rfl ?aP (fun _ hk=>hk) ?aF ?aO ?aB ?aS ?aL ?_;(case aP=>exact FK_of_R K7.out K8.out (fun k hk _=>⟨.inr hk,fun he=>absurd (HU.out k he.symm).2 (Nat.not_lt.2 (Nat.le_trans I4.out.size hk))⟩));(case aF=>exact fun k hk=>.inr (Nat.le_trans HBc.out.size hk));(case aO=>exact Kd.N_mono (Kd.N_below HN.out HWc.out) (fun k hk=>.inl hk));(case aB=>exact below_then a9.out a9.out.size HWc.out);(case aS=>exact Nat.le_trans a9.out.size HWc.out.size);(case aL=>exact HLN.out);intro m9 K9 ho hb hg hat;rw[← YS.out] at ho;have n9:=aM ho;have o0:=aM hb;have n7:=aM (show ∀ k,k < wc.heap.size→¬ (okl k∧k < w.heap.size)→K9.heap[k]?=wc.heap[k]? from fun k hk hn=>hg.block k hk (fun he=>hn (HU.out k he.symm)));have HS4:=aM (show wc.heap.size≤K9.heap.size from hg.size);clear ho hb hg hat p0 t7 t8 p4 t9 y9 hdz_0 hgz_0;obtain⟨o8,o9,rfl⟩:=Kd.N_slice n9.out;have hng:=(show ¬ (okl gl∧gl < w.heap.size) from fun h=>absurd (HOK.out gl h.1).1 (Nat.not_le.2 HG.out.2.2.2.1));have BL4:=aM ((n7.out gl (blk_lt BLc.out) hng).trans BLc.out);clear hng;obtain⟨hdz_0,hgz_0⟩:=bk1 BL4))
       have hgw:gl < w.heap.size:=Nat.lt_of_lt_of_le HG.out.2.2.2.1 HG.out.2.1;have L0:¬ (okl d8∧d8 < w.heap.size):=fun h=>absurd h.2 (Nat.not_lt.2 G6.out)
       have L7:¬ (okl H6∧H6 < w.heap.size):=fun h=>absurd h.2 (Nat.not_lt.2 G10.out)
       have BL5:=aM (blk_put BL4.out 0 (.slice o8 ys.length o9) rfl);have p7:=aM (Kd.N_far (p:=⟨gl,0,none⟩) n9.out (fun k hk he=>absurd (OKA.out k hk).1 (by rw[he];exact Nat.not_le.2 HG.out.2.2.2.1)) (.slice o8 ys.length o9))
       have r5:=aM (o0.out.setCell (p:=⟨gl,0,none⟩) HGL.out (.slice o8 ys.length o9));have r6:=aM (show ∀ k,k < wc.heap.size→k≠gl→¬ (okl k∧k < w.heap.size)→(K9.setCell ⟨gl,0,none⟩ (.slice o8 ys.length o9)).heap[k]?=wc.heap[k]? from fun k hk hne hn=>(Below.heap_setCell K9 ⟨gl,0,none⟩ (.slice o8 ys.length o9) k hne).trans (n7.out k hk hn))
       have HS5:=aM (show wc.heap.size≤(K9.setCell ⟨gl,0,none⟩ (.slice o8 ys.length o9)).heap.size by simpa using HS4.out)
       clear o0 n9 n7 HS4 BL4 hdz_0 hgz_0;generalize K9.setCell ⟨gl,0,none⟩ (.slice o8 ys.length o9)=r7 at BL5 p7 r5 r6 HS5 ⊢;have F7:=aM (blk_below I3.out HBc.out);have L8:=aM (blk_below I0.out HBc.out);have L9:=aM ((r6.out d8 (blk_lt F7.out) (fun he=>absurd G6.out (by rw[he];exact Nat.not_le.2 hgw)) L0).trans F7.out)
       have M0:=aM ((r6.out H6 (blk_lt L8.out) (fun he=>absurd G10.out (by rw[he];exact Nat.not_le.2 hgw)) L7).trans L8.out)
       have XF5:=aM (Kd.FK_step (W1:=r7) XF.out (fun k hk hlt=>(r6.out k (Nat.lt_of_lt_of_le hlt HBc.out.size) (fun he=>absurd (XO.out k hk).1 (by rw[he];exact Nat.not_le.2 hgw)) (fun h=>absurd h.2 (Nat.not_lt.2 (XO.out k hk).1))).trans (HBc.out.block k hlt)))
       obtain⟨p0,t7,t8,p4,t9,y9⟩:=bk3 L9;obtain⟨hdz_0,hdz_1,hdz_2,hgz_0,hgz_1,hgz_2⟩:=bk3 M0;go_wp2
       refine rC d8 33 #[.bool f7,.slice X1 f8.length g1,.slice X2 f9.length g2] (blk_put (blk_put (blk_put L9.out 0 (.bool f7) rfl) 1 (.slice X1 f8.length g1) rfl) 2 (.slice X2 f9.length g2) rfl) Try.underlying33 ?_
       have far3:∀ k,k≠d8→(((r7.setCell ⟨d8,0,none⟩ (.bool f7)).setCell ⟨d8,1,none⟩ (.slice X1 f8.length g1)).setCell ⟨d8,2,none⟩ (.slice X2 f9.length g2)).heap[k]?=r7.heap[k]?:=fun k hk=>(Below.heap_setCell _ ⟨d8,2,none⟩ _ k hk).trans ((Below.heap_setCell _ ⟨d8,1,none⟩ _ k hk).trans (Below.heap_setCell _ ⟨d8,0,none⟩ _ k hk))
       have hsz:(((r7.setCell ⟨d8,0,none⟩ (.bool f7)).setCell ⟨d8,1,none⟩ (.slice X1 f8.length g1)).setCell ⟨d8,2,none⟩ (.slice X2 f9.length g2)).heap.size=r7.heap.size:=by simp
       have z3:∀ k,k < w.heap.size→k≠d8:=fun k hk he=>absurd G6.out (by rw[← he];exact Nat.not_le.2 hk)
       have z4:=Nat.le_trans a9.out.size G6.out;have sz:w.heap.size≤r7.heap.size:=Nat.le_trans HWc.out.size HS5.out;refine⟨⟨_,_,.slice o8 ys.length o9,fun k=>(okl k∨E9.heap.size≤k)∧k < r7.heap.size,rfl,?_,?_,?_,?_,?_,?_,?_⟩⟩
       ·exact(((r5.out.setCell (p:=⟨d8,0,none⟩) z4 _).setCell (p:=⟨d8,1,none⟩) z4 _).setCell (p:=⟨d8,2,none⟩) z4 _)
       ·rw[hsz];exact sz
       ·exact fun k hk hne hn=>(far3 k (z3 k hk)).trans ((r6.out k (Nat.lt_of_lt_of_le hk HWc.out.size) hne (fun h=>hn h.1)).trans (HWc.out.block k hk))
       ·exact fun k hk=>hk.1.elim .inl (fun h=>.inr (Nat.le_trans I4.out.size h))
       ·exact fun k hk=>by rw[hsz];exact hk.2
       ·exact Kd.FK_mono (Kd.FK_step XF5.out (fun k hk _=>far3 k (XO.out k hk).2.2)) (fun k hk=>⟨(XO.out k hk).1,fun h=>h.1.elim (fun h=>absurd (HOK.out k h).2 (Nat.not_lt.2 (XO.out k hk).1)) (fun h=>absurd (XO.out k hk).2.1 (Nat.not_lt.2 h))⟩)
       ·intro _;refine⟨(far3 gl (z3 gl hgw)).trans BL5.out,?_⟩;rw[← YS.out];exact Kd.N_step (Kd.N_bound p7.out) (fun k hk _=>far3 k (OKA.out k hk.1).2)
     ·have h:=H.out;simp only[if_neg hr] at h;injection h with h
      injection h with g7 h
      injection h with g8 g9
      injection g8 with j3 j4 j5
      subst g7 g9 j3 j4 j5;have M3:(F8 != 0)=true:=bne_iff_ne.mpr hr;obtain⟨p0,t7,t8,p4,t9,y9⟩:=bk3 I3;go_wp2
      refine rC d8 33 #[.bool false,.slice none 0 0,.slice none 0 0] (blk_put (blk_put (blk_put I3.out 0 (.bool false) rfl) 1 (.slice none 0 0) rfl) 2 (.slice none 0 0) rfl) Try.underlying33 ?_
      exact ERR.out _ _ hr (((I4.out.setCell (p:=⟨d8,0,none⟩) G6.out _).setCell (p:=⟨d8,1,none⟩) G6.out _).setCell (p:=⟨d8,2,none⟩) G6.out _)
    ·have h:=H.out;simp only[if_neg hr] at h;injection h with h
     injection h with g7 h
     injection h with g8 g9
     injection g8 with j3 j4 j5
     subst g7 g9 j3 j4 j5;have M3:(B5 != 0)=true:=bne_iff_ne.mpr hr;obtain⟨p0,t7,t8,p4,t9,y9⟩:=bk3 F7;go_wp2
     refine rC d8 33 #[.bool false,.slice none 0 0,.slice none 0 0] (blk_put (blk_put (blk_put F7.out 0 (.bool false) rfl) 1 (.slice none 0 0) rfl) 2 (.slice none 0 0) rfl) Try.underlying33 ?_
     exact ERR.out _ _ hr (((HBc.out.setCell (p:=⟨d8,0,none⟩) G6.out _).setCell (p:=⟨d8,1,none⟩) G6.out _).setCell (p:=⟨d8,2,none⟩) G6.out _)
 ·rw[if_neg hln] at h;cases h
theorem rows_kept {w:World} {base base':Nat} {a6 a7:Option Addr} {a8 c2 g:Nat} {p q:List Int} {okp okq:Nat→Prop} {cs:Array Value} (a9:Kd.R (Kd.int .i64) 3 w base okp (.slice a6 p.length a8) p) (b4:Kd.R (Kd.int .i64) 3 w base' okq (.slice a7 q.length c2) q) (hg:w.heap[g]?=some (.cells cs 22 (0,0))) :
  ∀ W:World,(∀ k,k < w.heap.size→k≠g→W.heap[k]?=w.heap[k]?)→cI W a6 p∧cI W a7 q:=fun W hW =>
 ⟨Kd.F_now (Kd.F_step (Kd.V_F (base:=base) (Kd.R_V (Kd.R_tight rfl a9))) (fun k hk hlt=>hW k hlt (fun he=>Kd.R_ne a9 hg (by decide) (he ▸ hk)))),Kd.F_now (Kd.F_step (Kd.V_F (base:=base) (Kd.R_V (Kd.R_tight rfl b4))) (fun k hk hlt=>hW k hlt (fun he=>Kd.R_ne b4 hg (by decide) (he ▸ hk))))⟩
theorem draw_each (k:Nat) (cp mass:Int) (gm gl gt gv:Nat) (A:Option Addr) (c:Nat) (l:List S33) (lb:Bool) (l1 l2:List Int) (L1:Option Addr) (cL1:Nat) (L2:Option Addr) (cL2:Nat) (ls ys:List S33) (r:Int) (a6 w:World) (hB:Below a6.heap.size a6 w)
  (hm:w.heap[gm]?=some (.cells #[.int .i64 mass] 3 (0,0))) (hl:w.heap[gl]?=some (.cells #[.slice none 0 0] 22 (0,0))) (ht:w.heap[gt]?=some (.cells #[.int .i64 cp,.slice A l.length c] 24 (0,0))) (hv:w.heap[gv]?=some (.cells #[.bool lb,.slice L1 l1.length cL1,.slice L2 l2.length cL2] 33 (0,0)))
  (hgl0:a6.heap.size≤gl) (hne:gm≠gl∧gt≠gl∧gv≠gl) (hC:Kd.C k33 a6 A l.length l) (a7:l1.length≤cL1) (a8:l2.length≤cL2)
  (hL:∀ W:World,(∀ k,k < w.heap.size→k≠gl→W.heap[k]?=w.heap[k]?)→cI W L1 l1∧cI W L2 l2) (hn:l.length≤1000)
  (h:eachL (fun j s=>draw_g k mass lb l1 l2 l (j:Int) s) l.length 0 [] []=some (ls,ys,r)) :
  Calls Try.prog 48 #[.agg #[.int .i64 cp,.slice A l.length c],.func (.func 49) #[] #[.pointer (some ⟨gm,0,none⟩),.pointer (some ⟨gl,0,none⟩),.pointer (some ⟨gt,0,none⟩),.pointer (some ⟨gv,0,none⟩)]] w fun e w'=>∃ (v:Value),e=.returned (.tuple #[v,.int .i64 r])∧Below a6.heap.size a6 w'∧(w.heap.size≤w'.heap.size∧∀ k,k < w.heap.size→k≠gl→w'.heap[k]?=w.heap[k]?)∧(r≠0→v=.slice none 0 0)∧(r=0→∃ (u:Value) (okl:Nat→Prop),w'.heap[gl]?=some (.cells #[u] 22 (0,0))∧Kd.N k33 33 w' a6.heap.size okl u ls∧(∀ k,okl k→w.heap.size≤k)∧Kd.N k33 33 w' a6.heap.size (fun k=>a6.heap.size≤k∧¬ (k < w.heap.size∨okl k)) v ys):=by
 refine(Gzf.calls (fun j s=>draw_g k mass lb l1 l2 l (j:Int) s) cp A l.length c 49 #[.pointer (some ⟨gm,0,none⟩),.pointer (some ⟨gl,0,none⟩),.pointer (some ⟨gt,0,none⟩),.pointer (some ⟨gv,0,none⟩)] a6 w (fun W=>w.heap.size≤W.heap.size∧∀ k,k < w.heap.size→k≠gl→W.heap[k]?=w.heap[k]?)
  (fun _ s W ok=>∃ (u:Value) (okl:Nat→Prop),(w.heap.size≤W.heap.size∧∀ k,k < w.heap.size→k≠gl→W.heap[k]?=w.heap[k]?)∧W.heap[gl]?=some (.cells #[u] 22 (0,0))∧Kd.N k33 33 W a6.heap.size okl u s∧(∀ k,okl k→w.heap.size≤k∧k < W.heap.size)∧ok=fun k=>k < w.heap.size∨okl k) [] ls ys r _ ⟨⟨_,Try.func49,by kernel_rfl,rfl⟩,?_,?_,?_,?_⟩ ⟨.slice none 0 0,fun _=>False,⟨Nat.le_refl _,fun _ _ _=>rfl⟩,hl,Kd.N_nil _ _ _ _ _,fun _ h=>h.elim,rfl⟩ hB hn h).mono ?_
 ·rintro j s W ok s' b p q e hj ⟨u,okl,⟨hsz,hK⟩,hu,hN,hok,rfl⟩ hb hg;obtain⟨hL1,hL2⟩:=hL W hK;refine(Hzq.calls k cp mass gm gl gt gv A c l lb l1 l2 L1 cL1 L2 cL2 (j:Int) u s okl w.heap.size s' b p q e a6 W hb ((hK gm (blk_lt hm) hne.1).trans hm) hu ((hK gt (blk_lt ht) hne.2.1).trans ht) ((hK gv (blk_lt hv) hne.2.2).trans hv) hgl0 ⟨hB.size,hsz,blk_lt hm,blk_lt hl,blk_lt ht,blk_lt hv⟩ hC a7 hL1 a8 hL2 hN hok (by omega) (by omega) hg).mono ?_
  rintro e' W' ⟨a9,b4,u',okl',rfl,hb',hsz',hk',b5,b6,hF,hz⟩;have hK':∀ k,k < w.heap.size→k≠gl→W'.heap[k]?=w.heap[k]?:=fun k hk hn=>(hk' k (Nat.lt_of_lt_of_le hk hsz) hn (fun ho=>absurd (hok k ho).1 (Nat.not_le.2 hk))).trans (hK k hk hn)
  refine⟨a9,b4,rfl,hb',⟨Nat.le_trans hsz hsz',hK'⟩,fun k=>k < w.heap.size∨okl' k,fun hr=>⟨u',okl',⟨Nat.le_trans hsz hsz',hK'⟩,(hz hr).1,(hz hr).2,fun k hk=>⟨(b5 k hk).elim (fun h=>(hok k h).1) (fun h=>Nat.le_trans hsz h),b6 k hk⟩,rfl⟩,?_,?_,?_,?_⟩
  ·exact fun k hk=>hk.elim (fun h=>.inl (.inl h)) (fun h=>(b5 k h).elim (fun h=>.inl (.inr h)) .inr)
  ·exact fun k hk=>hk.elim (fun h=>Nat.lt_of_lt_of_le h (Nat.le_trans hsz hsz')) (b6 k)
  ·exact Kd.FK_mono hF (fun k hk=>⟨hk.1,fun h=>h.elim (fun h=>absurd h (Nat.not_lt.2 (Nat.le_trans hsz hk.1))) hk.2⟩)
  ·exact⟨hsz',fun k hk hn=>hk' k hk (fun he=>hn (.inl (by rw[he];exact blk_lt hl))) (fun ho=>hn (.inr ho))⟩
 ·rintro j s W ok ⟨u,okl,⟨hsz,hK⟩,hu,hN,hok,rfl⟩ k hk;exact hk.elim (fun h=>Nat.lt_of_lt_of_le h hsz) (fun h=>(hok k h).2)
 ·rintro j s W W' ok ⟨u,okl,⟨hsz,hK⟩,hu,hN,hok,rfl⟩ b7 hk;exact⟨u,okl,⟨Nat.le_trans hsz b7.size,fun k b8 b9=>(hk k (.inl b8)).trans (hK k b8 b9)⟩,(hk gl (.inl (blk_lt hl))).trans hu,Kd.N_step hN (fun k b8 _=>hk k (.inr b8)),fun k b8=>⟨(hok k b8).1,Nat.lt_of_lt_of_le (hok k b8).2 b7.size⟩,rfl⟩
 ·rintro W W' ⟨hsz,hK⟩ hb;exact⟨Nat.le_trans hsz hb.size,fun k b8 b9=>(hb.block k (Nat.lt_of_lt_of_le b8 hsz)).trans (hK k b8 b9)⟩
 ·rintro e w' ⟨v,rfl,hb,b8,b9⟩;by_cases hr:r=0
  ·obtain⟨ok,⟨u,okl,hJ,hu,hN,hok,rfl⟩,hy⟩:=b9 hr;exact⟨v,rfl,hb,hJ,fun h=>absurd hr h,fun _=>⟨u,okl,hu,hN,fun k hk=>(hok k hk).1,hy⟩⟩
  ·exact⟨v,rfl,hb,(b8 hr).2,fun _=>(b8 hr).1,fun h=>absurd h hr⟩
def Ezm.f (k:Nat) (cp:Int) (l:List S33) (mass:Int):Option (Int × List S33 × List S33 × Int):=(Ezw.f k cp l).bind fun lv=>if lv.2.2.2=0 then(if mass < 0 then some (0,[],[],1) else(if mass > 1099511627776 then some (0,[],[],1) else(Gzj.f k lv.1 lv.2.1 lv.2.2.1).bind fun fl=>if fl.2=0 then(if mass > fl.1 then some (0,[],[],19) else(if l.length≤1000 then(eachL (fun j s=>draw_g k mass lv.1 lv.2.1 lv.2.2.1 l (j:Int) s) l.length 0 [] []).bind fun x=>(if x.2.2=0 then some (cp,x.1,x.2.1,0) else some (0,[],[],x.2.2)) else none)) else some (0,[],[],fl.2))) else some (0,[],[],lv.2.2.2)
theorem Ezm.calls (k:Nat) (cp:Int) (A:Option Addr) (c:Nat) (l:List S33) (mass:Int) (a6:Int) (a7 a8:List S33) (a9:Int) (w:World) (hC:Kd.C k33 w A l.length l) (hc:l.length≤c) (h:Ezm.f k cp l mass=some (a6,a7,a8,a9)) :
  Calls Try.prog 22 #[.agg #[.int .i64 cp,.slice A l.length c],.int .i64 mass] w fun e w'=>∃ v1_ v2_:Value,e=.returned (.tuple #[.agg #[.int .i64 a6,v1_],v2_,.int .i64 a9])∧Kd.N k33 33 w' w.heap.size (fun k_=>(w.heap.size≤k_)∧oV v2_ k_) v1_ a7∧Kd.N k33 33 w' w.heap.size (fun k_=>(w.heap.size≤k_)∧oV v1_ k_) v2_ a8∧bw w w':=by
 have hmf_:∀ (fn:Fn) (first cap:Array Value) (w:World),(Instr.makeFunc fn first cap).run Try.prog w=.ok (.func fn first cap) w:=fun _ _ _ _=>rfl
 unfold Ezm.f at h;rw[Option.bind_eq_some_iff] at h;obtain⟨⟨lb,l1,l2,b4⟩,hlv,h⟩:=h;have HC:=aM hC;have HL:=aM hc;have LV:=aM hlv;have H:=aM h;have HB:=aM (Below.refl w.heap.size w);clear hC hc hlv h;go_enter Try.func22,Try.ntmps22
 go_upto_region 2 with (first|((with_reducible refine gd 2 rfl ?_);refine bx #[.int .i64 cp,.slice A l.length c] 24 ?_;intro b5 hg b6 b7 hb;have G2:=gA w hg;replace HB:=bB hb;clear hb hg)|((with_reducible refine gd 3 rfl ?_);refine bx #[.int .i64 mass] 3 ?_;intro b8 hg b9 d6 hb;have G3:=gA w hg;replace b7:=kb b7 hb;replace HB:=bB hb;clear hb hg)|((with_reducible refine gd 4 rfl ?_);refine bx #[.int .i64 0,.slice none 0 0] 24 ?_;intro d7 hg d8 d9 hb;have G4:=gA w hg;have N2_4:=nl hg b7;have N4_2:=ng hg b7;have N3_4:=nl hg d6;have N4_3:=ng hg d6;replace b7:=kb b7 hb;replace d6:=kb d6 hb;replace HB:=bB hb;clear hb hg;obtain⟨e6,e7,e8,e9⟩:=bk2 b7)|((with_reducible refine gate_callee (f:=14) rfl ?_);refine goesL_ (some 14) rfl rfl Try.func14 (by kernel_rfl) rfl #[.agg #[.int .i64 cp,.slice A l.length c]] rfl (by first|exact mA|(simp [Act.eval];done)) ?_;refine(Ezw.calls k cp A c l lb l1 l2 b4 _ (Kd.C_below HC.out HB.out) HL.out LV.out).mono ?_;rintro e f3 ⟨f4,f5,rfl,f6,f7,hb⟩;refine⟨_,rfl,?_⟩;replace b7:=kb b7 hb;replace d6:=kb d6 hb;replace d9:=kb d9 hb;have HV1:=aM (Kd.R_mono (ok':=fun _=>True) (Kd.R_lower f6 HB.out.size) (fun _ _=>trivial));have HV2:=aM (Kd.R_mono (ok':=fun _=>True) (Kd.R_lower f7 HB.out.size) (fun _ _=>trivial));replace HB:=bB hb;clear hb f6 f7 e6 e7 e8 e9 LV;obtain⟨L1,f8,f9⟩:=Kd.R_slice HV1.out;subst f9;obtain⟨L2,c2,g4⟩:=Kd.R_slice HV2.out;subst g4)|((with_reducible refine gd 7 rfl ?_);refine bz 33 ?_;intro g5 hg g6 g7 hb;have G7:=gA w hg;have N37:=nl hg d6;have N27:=nl hg b7;have N47:=nl hg d9;replace b7:=kb b7 hb;replace d6:=kb d6 hb;replace d9:=kb d9 hb;replace HV1:=aM (Kd.R_below HV1.out hb);replace HV2:=aM (Kd.R_below HV2.out hb);replace HB:=bB hb;clear hb hg;obtain⟨hdz0,hdz1,hdz2,hgz0,hgz1,hgz2⟩:=bk3 g7))
 have fr:∀ (v:Value) (xs:List Int),rI g6 w (fun _=>True) v xs→Kd.R (Kd.int .i64) 3 (((g6.setCell ⟨g5,0,none⟩ (.bool lb)).setCell ⟨g5,1,none⟩ (.slice L1 l1.length f8)).setCell ⟨g5,2,none⟩ (.slice L2 l2.length c2)) w.heap.size (fun _=>True) v xs:=fun v xs hv=>Kd.R_mono (Kd.R_far (p:=⟨g5,2,none⟩) (Kd.R_far (p:=⟨g5,1,none⟩) (Kd.R_far (p:=⟨g5,0,none⟩) (Kd.R_types hv g7.out (by decide)) (fun _ hk=>hk.2) _) (fun _ hk=>hk.2) _) (fun _ hk=>hk.2) _) (fun _ _=>trivial)
 have g8:=aM (fr _ _ HV1.out);have g9:=aM (fr _ _ HV2.out);have fb:∀ (g:Nat) (o:Obj),g≠g5→g6.heap[g]?=some o→(((g6.setCell ⟨g5,0,none⟩ (.bool lb)).setCell ⟨g5,1,none⟩ (.slice L1 l1.length f8)).setCell ⟨g5,2,none⟩ (.slice L2 l2.length c2)).heap[g]?=some o:=fun g o hg ho=>(Below.heap_setCell _ ⟨g5,2,none⟩ _ g hg).trans ((Below.heap_setCell _ ⟨g5,1,none⟩ _ g hg).trans ((Below.heap_setCell _ ⟨g5,0,none⟩ _ g hg).trans ho))
 have BL2:=aM (fb _ _ N27.out b7.out);have BL3:=aM (fb _ _ N37.out d6.out);have BL4:=aM (fb _ _ N47.out d9.out);have BL7:=aM (blk_put (blk_put (blk_put g7.out 0 (.bool lb) rfl) 1 (.slice L1 l1.length f8) rfl) 2 (.slice L2 l2.length c2) rfl);have j3:=aM (((HB.out.setCell (p:=⟨g5,0,none⟩) G7.out (.bool lb)).setCell (p:=⟨g5,1,none⟩) G7.out (.slice L1 l1.length f8)).setCell (p:=⟨g5,2,none⟩) G7.out (.slice L2 l2.length c2));clear fr fb HV1 HV2 b7 d6 d9 g7 HB hdz0 hdz1 hdz2 hgz0 hgz1 hgz2;generalize (((g6.setCell { block:=g5,off:=0 } (Value.bool lb)).setCell { block:=g5,off:=1 } (Value.slice L1 l1.length f8)).setCell { block:=g5,off:=2 } (Value.slice L2 l2.length c2))=j4 at g8 g9 BL2 BL3 BL4 BL7 j3 ⊢;by_cases hr:b4=0
 ·subst hr;have h:=H.out;simp only[if_true] at h;obtain⟨j5,j6⟩:=bk1 BL3;by_cases j7:mass < 0
  ·simp only[if_pos j7] at h;have d0:decide (mass < 0)=true:=dE j7;injection h with h
   injection h with j8 h
   injection h with j9 h
   injection h with l5 l6
   subst j8 j9 l5 l6;obtain⟨hez_0,hez_1,l7,l8⟩:=bk2 BL4;go_wp2
   refine bodyPost_ret (results_ctt rfl _ _ d7 24 #[.int .i64 0,.slice none 0 0] (0,0) _ rfl (blk_put (blk_put BL4.out 0 (.int .i64 0) rfl) 1 (.slice none 0 0) rfl) Try.underlying24 rfl (by kernel_rfl)) rfl ?_
   exact⟨_,_,rfl,Kd.N_nil _ _ _ _ _,Kd.N_nil _ _ _ _ _,(j3.out.setCell (p:=⟨d7,0,none⟩) G4.out _).setCell (p:=⟨d7,1,none⟩) G4.out _⟩
  ·simp only[if_neg j7] at h;have d0:decide (mass < 0)=false:=decide_eq_false j7;by_cases l9:mass > 1099511627776
   ·simp only[if_pos l9] at h;have d1:decide (mass > 1099511627776)=true:=dE l9;have d1':decide (1099511627776 < mass)=true:=d1;injection h with h
    injection h with j8 h
    injection h with j9 h
    injection h with l5 l6
    subst j8 j9 l5 l6;obtain⟨hez_0,hez_1,l7,l8⟩:=bk2 BL4;go_wp2
    refine bodyPost_ret (results_ctt rfl _ _ d7 24 #[.int .i64 0,.slice none 0 0] (0,0) _ rfl (blk_put (blk_put BL4.out 0 (.int .i64 0) rfl) 1 (.slice none 0 0) rfl) Try.underlying24 rfl (by kernel_rfl)) rfl ?_
    exact⟨_,_,rfl,Kd.N_nil _ _ _ _ _,Kd.N_nil _ _ _ _ _,(j3.out.setCell (p:=⟨d7,0,none⟩) G4.out _).setCell (p:=⟨d7,1,none⟩) G4.out _⟩
   ·simp only[if_neg l9] at h;have d1:decide (mass > 1099511627776)=false:=decide_eq_false l9;have d1':decide (1099511627776 < mass)=false:=d1;rw[Option.bind_eq_some_iff] at h;obtain⟨⟨fl,m0⟩,hfl,h⟩:=h;have FL:=aM hfl;replace H:=aM h;clear hfl h;have D0:=aM j7;have D1:=aM l9;clear j7 l9;go_upto_region 6 with (fail)
    clear d0 d1 d1' j5 j6;obtain⟨hdz0,hdz1,hdz2,hgz0,hgz1,hgz2⟩:=bk3 BL7;go_upto_region 7 with (first|((with_reducible refine gate_callee (f:=47) rfl ?_);refine goesL_ (some 30) rfl rfl Try.func47 (by kernel_rfl) rfl #[.agg #[.bool lb,.slice L1 l1.length f8,.slice L2 l2.length c2]] rfl (by first|exact mA|(simp [Act.eval];done)) ?_;refine(Gzj.calls k lb L1 f8 l1 L2 c2 l2 fl m0 j4 (Kd.R_reads' g8.out).2.2 (Kd.R_reads' g8.out).2.1 (Kd.R_reads' g9.out).2.2 (Kd.R_reads' g9.out).2.1 FL.out).mono ?_;rintro e m4 ⟨rfl,hb⟩;refine⟨_,rfl,?_⟩;replace BL2:=aM (blk_below BL2.out hb);replace BL3:=aM (blk_below BL3.out hb);replace BL4:=aM (blk_below BL4.out hb);replace BL7:=aM (blk_below BL7.out hb);replace g8:=aM (Kd.R_below g8.out hb);replace g9:=aM (Kd.R_below g9.out hb);replace j3:=aM (below_then j3.out j3.out.size hb);clear hb FL))
    clear hdz0 hdz1 hdz2 hgz0 hgz1 hgz2;by_cases hr:m0=0
    ·subst hr;have h:=H.out;simp only[if_true] at h;obtain⟨j5,j6⟩:=bk1 BL3;by_cases hmf:mass > fl
     ·simp only[if_pos hmf] at h;have d1:decide (mass > fl)=true:=dE hmf;have d1':decide (fl < mass)=true:=d1;injection h with h
      injection h with j8 h
      injection h with j9 h
      injection h with l5 l6
      subst j8 j9 l5 l6;obtain⟨hez_0,hez_1,l7,l8⟩:=bk2 BL4;go_wp2
      refine bodyPost_ret (results_ctt rfl _ _ d7 24 #[.int .i64 0,.slice none 0 0] (0,0) _ rfl (blk_put (blk_put BL4.out 0 (.int .i64 0) rfl) 1 (.slice none 0 0) rfl) Try.underlying24 rfl (by kernel_rfl)) rfl ?_
      exact⟨_,_,rfl,Kd.N_nil _ _ _ _ _,Kd.N_nil _ _ _ _ _,(j3.out.setCell (p:=⟨d7,0,none⟩) G4.out _).setCell (p:=⟨d7,1,none⟩) G4.out _⟩
     ·simp only[if_neg hmf] at h;have d1:decide (mass > fl)=false:=decide_eq_false hmf;have d1':decide (fl < mass)=false:=d1;by_cases hln:l.length≤1000
      ·rw[if_pos hln,Option.bind_eq_some_iff] at h;obtain⟨⟨ls,ys,m5⟩,hea,h⟩:=h;have EA:=aM hea;have LN:=aM hln;replace H:=aM h;clear hea h hln hmf;obtain⟨e6,e7,e8,e9⟩:=bk2 BL2;go_upto_region 13 with (first|((with_reducible refine gd 10 rfl ?_);refine bx #[.slice none 0 0] 22 ?_;intro m6 hg m7 m8 hb;have G10:=aM (show w.heap.size≤m6 by rw[hg];exact j3.out.size);have N310:=aM (show b8≠m6 by rw[hg];exact Nat.ne_of_lt (blk_lt BL3.out));have N210:=aM (show b5≠m6 by rw[hg];exact Nat.ne_of_lt (blk_lt BL2.out));have N710:=aM (show g5≠m6 by rw[hg];exact Nat.ne_of_lt (blk_lt BL7.out));have N410:=aM (show d7≠m6 by rw[hg];exact Nat.ne_of_lt (blk_lt BL4.out));replace BL2:=aM (blk_below BL2.out hb);replace BL3:=aM (blk_below BL3.out hb);replace BL4:=aM (blk_below BL4.out hb);replace BL7:=aM (blk_below BL7.out hb);replace g8:=aM (Kd.R_below g8.out hb);replace g9:=aM (Kd.R_below g9.out hb);replace j3:=aM (below_then j3.out j3.out.size hb);clear hb hg e6 e7 e8 e9;obtain⟨e6,e7,e8,e9⟩:=bk2 BL2)|((with_reducible refine gate_callee (f:=48) rfl ?_);refine goesL_ (some 44) rfl rfl Try.func48 (by kernel_rfl) rfl #[.agg #[.int .i64 cp,.slice A l.length c],.func (.func 49) #[] #[.pointer (some ⟨b8,0,none⟩),.pointer (some ⟨m6,0,none⟩),.pointer (some ⟨b5,0,none⟩),.pointer (some ⟨g5,0,none⟩)]] rfl (by first|exact mA|(simp [Act.eval];done)) ?_;have HLL:=aM (rows_kept g8.out g9.out m8.out);refine(draw_each k cp mass b8 m6 b5 g5 A c l lb l1 l2 L1 f8 L2 c2 ls ys m5 w m7 j3.out BL3.out m8.out BL2.out BL7.out G10.out ⟨N310.out,N210.out,N710.out⟩ HC.out (Kd.R_reads' g8.out).2.1 (Kd.R_reads' g9.out).2.1 HLL.out LN.out EA.out).mono ?_;rintro e m9 ⟨n0,rfl,hb,hk,hz1,hz2⟩;refine⟨_,rfl,?_⟩;have L4:=aM (show d7 < m7.heap.size from blk_lt BL4.out);have HBA:=aM (show w.heap.size≤m7.heap.size from j3.out.size);have BM2:=aM ((hk.2 b5 (blk_lt BL2.out) N210.out).trans BL2.out);have BM4:=aM ((hk.2 d7 (blk_lt BL4.out) N410.out).trans BL4.out);have n7:=aM hb;have HZ2:=aM hz2;clear hb hk hz1 hz2 e6 e7 e8 e9 HLL BL2 BL3 BL7 g8 g9 BL4 m8))
       by_cases hr:m5=0
       ·subst hr;have h:=H.out;simp only[if_true] at h;injection h with h
        injection h with j8 h
        injection h with j9 h
        injection h with l5 l6
        subst j8 j9 l5 l6;obtain⟨u,okl,hu,hN,hok,hY⟩:=HZ2.out rfl;obtain⟨Au,cu,eu⟩:=Kd.N_slice hN;subst eu;obtain⟨Av,cv,ev⟩:=Kd.N_slice hY;subst ev;have NU:=aM hN;have NY:=aM hY;have OK:=aM hok;have BU:=aM hu;clear hN hY hok hu HZ2 H;obtain⟨e6,e7,e8,e9⟩:=bk2 BM2;obtain⟨hdz0,hgz0⟩:=bk1 BU;obtain⟨hez_0,hez_1,l7,l8⟩:=bk2 BM4;go_wp2
        refine bodyPost_ret (results_ctt rfl _ _ d7 24 #[.int .i64 cp,.slice Au ls.length cu] (0,0) _ rfl (blk_put (blk_put BM4.out 0 (.int .i64 cp) rfl) 1 (.slice Au ls.length cu) rfl) Try.underlying24 rfl (by kernel_rfl)) rfl ?_
        have f1:∀ k,okl k→k≠d7:=fun k hk he=>absurd L4.out (by rw[← he];exact Nat.not_lt.2 (OK.out k hk))
        have f2:∀ k,(w.heap.size≤k∧¬ (k < m7.heap.size∨okl k))→k≠d7:=fun k hk he=>hk.2 (.inl (by rw[he];exact L4.out))
        have hou:=NU.out.1;have hoy:=NY.out.1;have hbu:=Kd.N_base NU.out;refine⟨_,_,rfl,Kd.N_mono (Kd.N_far (p:=⟨d7,1,none⟩) (Kd.N_far (p:=⟨d7,0,none⟩) NU.out f1 (.int .i64 cp)) f1 (.slice Au ls.length cu)) (fun k hk=>⟨Nat.le_trans HBA.out (OK.out k hk),fun he=>(hoy k he.symm).2 (.inr hk)⟩),Kd.N_mono (Kd.N_far (p:=⟨d7,1,none⟩) (Kd.N_far (p:=⟨d7,0,none⟩) NY.out f2 (.int .i64 cp)) f2 (.slice Au ls.length cu)) (fun k hk=>⟨hk.1,fun he=>hk.2 (.inr (hou k he.symm))⟩),(n7.out.setCell (p:=⟨d7,0,none⟩) G4.out _).setCell (p:=⟨d7,1,none⟩) G4.out _⟩
       ·have h:=H.out;simp only[if_neg hr] at h;injection h with h
        injection h with j8 h
        injection h with j9 h
        injection h with l5 l6
        subst j8 j9 l5 l6;have n8:(m5 != 0)=true:=bne_iff_ne.mpr hr;obtain⟨hez_0,hez_1,l7,l8⟩:=bk2 BM4;go_wp2
        refine bodyPost_ret (results_ctt rfl _ _ d7 24 #[.int .i64 0,.slice none 0 0] (0,0) _ rfl (blk_put (blk_put BM4.out 0 (.int .i64 0) rfl) 1 (.slice none 0 0) rfl) Try.underlying24 rfl (by kernel_rfl)) rfl ?_
        exact⟨_,_,rfl,Kd.N_nil _ _ _ _ _,Kd.N_nil _ _ _ _ _,(n7.out.setCell (p:=⟨d7,0,none⟩) G4.out _).setCell (p:=⟨d7,1,none⟩) G4.out _⟩
      ·rw[if_neg hln] at h;cases h
    ·have h:=H.out;simp only[if_neg hr] at h;injection h with h
     injection h with j8 h
     injection h with j9 h
     injection h with l5 l6
     subst j8 j9 l5 l6;have n8:(m0 != 0)=true:=bne_iff_ne.mpr hr;obtain⟨hez_0,hez_1,l7,l8⟩:=bk2 BL4;go_wp2
     refine bodyPost_ret (results_ctt rfl _ _ d7 24 #[.int .i64 0,.slice none 0 0] (0,0) _ rfl (blk_put (blk_put BL4.out 0 (.int .i64 0) rfl) 1 (.slice none 0 0) rfl) Try.underlying24 rfl (by kernel_rfl)) rfl ?_
     exact⟨_,_,rfl,Kd.N_nil _ _ _ _ _,Kd.N_nil _ _ _ _ _,(j3.out.setCell (p:=⟨d7,0,none⟩) G4.out _).setCell (p:=⟨d7,1,none⟩) G4.out _⟩
 ·have h:=H.out;simp only[if_neg hr] at h;injection h with h
  injection h with j8 h
  injection h with j9 h
  injection h with l5 l6
  subst j8 j9 l5 l6;have n8:(b4 != 0)=true:=bne_iff_ne.mpr hr;obtain⟨hez_0,hez_1,l7,l8⟩:=bk2 BL4;go_wp2
  refine bodyPost_ret (results_ctt rfl _ _ d7 24 #[.int .i64 0,.slice none 0 0] (0,0) _ rfl (blk_put (blk_put BL4.out 0 (.int .i64 0) rfl) 1 (.slice none 0 0) rfl) Try.underlying24 rfl (by kernel_rfl)) rfl ?_
  exact⟨_,_,rfl,Kd.N_nil _ _ _ _ _,Kd.N_nil _ _ _ _ _,(j3.out.setCell (p:=⟨d7,0,none⟩) G4.out _).setCell (p:=⟨d7,1,none⟩) G4.out _⟩
theorem draw_g_mono (k:Nat) (mass:Int) (lb:Bool) (l1 l2:List Int) (l:List S33) (j:Int) (ls:List S33):LeO (draw_g k mass lb l1 l2 l j ls) (draw_g (k+1) mass lb l1 l2 l j ls):=by
 unfold draw_g;exact LeO.ite (LeO.ite (LeO.bind (LeO.refl _) (fun _=>LeO.bind (Czf.mono _ k) (fun _=>LeO.refl _))) (LeO.bind (Czf.mono _ k) (fun _=>LeO.bind (Dzm.mono _ _ _ _ _ _ k) (fun _=>LeO.ite (LeO.bind (Fzf.mono _ _ _ _ _ _ k) (fun _=>LeO.ite (LeO.bind (Fzv.mono _ _ _ _ _ _ k) (fun _=>LeO.refl _)) (LeO.refl _))) (LeO.refl _))))) (LeO.refl _)
theorem Ezm.mono:∀ a6 a7 a8 k,LeO (Ezm.f k a6 a7 a8) (Ezm.f (k+1) a6 a7 a8):=by
 intro a6 a7 a8 k;unfold Ezm.f;exact LeO.bind (Ezw.mono _ _ k) (fun _=>LeO.ite (LeO.ite (LeO.refl _) (LeO.ite (LeO.refl _) (LeO.bind (Gzj.mono _ _ _ k) (fun _=>LeO.ite (LeO.ite (LeO.refl _) (LeO.ite (LeO.bind (eachL_mono (fun j s=>draw_g_mono _ _ _ _ _ _ _ _) _ _ _ _) (fun _=>LeO.refl _)) (LeO.refl _))) (LeO.refl _))))) (LeO.refl _))

end Go.Proofs.Ytbnpcplckcipfaa.Print
