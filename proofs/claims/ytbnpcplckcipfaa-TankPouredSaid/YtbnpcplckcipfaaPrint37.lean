import Derived.Test.YtbnpcplckcipfaaPrint0
import Derived.Test.YtbnpcplckcipfaaPrint12
import Derived.Test.YtbnpcplckcipfaaPrint29
import Derived.Test.YtbnpcplckcipfaaPrint30
import Derived.Test.YtbnpcplckcipfaaPrint33
import Derived.Test.YtbnpcplckcipfaaPrint34
namespace Go.Proofs.Ytbnpcplckcipfaa.Print
open Go.RowKit Go.Proofs.YtbnpcplckcipfaaW.PrintWords Go.Proofs.YtbnpcplckcipfaaW.PrintLast Go.Proofs.YtbnpcplckcipfaaW.PrintMore
attribute [local go_sem] dF dG eB eD dm dn dH dI
set_option linter.unusedVariables false
set_option maxRecDepth 100000
set_option maxHeartbeats 8000000
set_option linter.unusedSimpArgs false

/-- One number of a tank that is drawn from: what is left,and what is taken. -/
def jo (k:Nat) (mass:Int) (lb:Bool) (l1 l2:List Int) (l:List S33) (j:Int) (ls:List S33):Option (List S33 × S33 × Int) :=
 if ls.length≤1000 then(if mass=0 then(Hzk.f (ag l j).f0 (ag l j).f1 (ag l j).f2).bind fun x=>(Dzk.f k 0).bind fun y=>some (ls ++ [(⟨x.1,x.2.1,x.2.2⟩:S33)],(⟨y.1,y.2.1,y.2.2⟩:S33),0)
 else(Dzk.f k mass).bind fun m=>(Ezk.f k (ag l j).f0 (ag l j).f1 (ag l j).f2 m.1 m.2.1 m.2.2).bind fun p=>if p.2.2.2=0 then(Gzb.f k p.1 p.2.1 p.2.2.1 lb l1 l2).bind fun x=>if x.2.2.2=0 then(Gzq.f k (ag l j).f0 (ag l j).f1 (ag l j).f2 x.1 x.2.1 x.2.2.1).bind fun t=>some (ls ++ [(⟨t.1,t.2.1,t.2.2.1⟩:S33)],(⟨x.1,x.2.1,x.2.2.1⟩:S33),t.2.2.2) else some (ls,(⟨false,[],[]⟩:S33),x.2.2.2) else some (ls,(⟨false,[],[]⟩:S33),p.2.2.2)) else none
theorem lH {w W:World} {p:Addr} {v:Value} (h:W.heap[p.block]?=w.heap[p.block]?) (hc:w.cell? p=some v):W.cell? p=some v:=by
 rw[← hc];simp only[World.cell?,h]
theorem zO (W:World) (ok:Nat→Prop):Kd.FK k33 W ok (⟨false,[],[]⟩:S33) [.bool false,.slice none 0 0,.slice none 0 0] :=
 eG _ _ (⟨false,[],[]⟩:S33) (Nat.le_refl _) (Kd.V_F (base:=0) (Kd.qN (Kd.int .i64) 3 W 0 ok)) (Nat.le_refl _) (Kd.V_F (base:=0) (Kd.qN (Kd.int .i64) 3 W 0 ok))
structure AU (w0 w:World) (gl:Nat) (okl:Nat→Prop) (b:Bool) (p q:List Int) (r:Int) (s':List S33) (e:Ending) (w':World):Prop where
 mk :: (out:∃ (v1 v2 u':Value) (okl':Nat→Prop),e=.returned (.tuple #[.agg #[.bool b,v1,v2],.int .i64 r])∧bw w0 w'∧w.heap.size≤w'.heap.size∧(∀ k,k < w.heap.size→k≠gl→¬ okl k→w'.heap[k]?=w.heap[k]?)∧(∀ k,okl' k→okl k∨w.heap.size≤k)∧(∀ k,okl' k→k < w'.heap.size)∧Kd.FK k33 w' (fun k=>w.heap.size≤k∧¬ okl' k) (⟨b,p,q⟩:S33) [.bool b,v1,v2]∧(r=0→w'.heap[gl]?=some (.cells #[u'] 22 (0,0))∧Kd.N k33 33 w' w0.heap.size okl' u' s'))
theorem CW {w:World} {base:Nat} (b:Bool) {a6 a7:Option Addr} {a8 c2:Nat} {p q:List Int} {okp okq:Nat→Prop} (a9:Kd.R (Kd.int .i64) 3 w base okp (.slice a6 p.length a8) p) (b4:Kd.R (Kd.int .i64) 3 w base okq (.slice a7 q.length c2) q):Kd.FK k33 w (fun k=>some k=(.slice a6 p.length a8:Value).ownBlock∨some k=(.slice a7 q.length c2:Value).ownBlock) (⟨b,p,q⟩:S33) [.bool b,.slice a6 p.length a8,.slice a7 q.length c2] :=
 eG _ _ (⟨b,p,q⟩:S33) (Kd.ax a9).2.1 (Kd.V_F (base:=base) (Kd.R_V (Kd.ah (Kd.dJ rfl a9) (fun k hk=>.inl hk)))) (Kd.ax b4).2.1 (Kd.V_F (base:=base) (Kd.R_V (Kd.ah (Kd.dJ rfl b4) (fun k hk=>.inr hk))))
theorem Hzf.calls (k:Nat) (cp mass:Int) (gm gl gt gv:Nat) (A:Option Addr) (c:Nat) (l:List S33) (lb:Bool) (l1 l2:List Int) (L1:Option Addr) (cL1:Nat) (L2:Option Addr) (cL2:Nat) (j:Int) (u:Value) (ls:List S33) (okl:Nat→Prop) (B1:Nat) (s':List S33) (b:Bool) (p q:List Int) (r:Int) (w0 w:World)
  (hB0:bw w0 w) (hm:w.heap[gm]?=some (.cells #[.int .i64 mass] 3 (0,0))) (hl:w.heap[gl]?=some (.cells #[u] 22 (0,0))) (ht:w.heap[gt]?=some (.cells #[.int .i64 cp,.slice A l.length c] 24 (0,0))) (hv:w.heap[gv]?=some (.cells #[.bool lb,.slice L1 l1.length cL1,.slice L2 l2.length cL2] 33 (0,0)))
  (hgl0:w0.heap.size≤gl) (a6:w0.heap.size≤B1∧B1≤w.heap.size∧gm < B1∧gl < B1∧gt < B1∧gv < B1) (hC:Kd.C k33 w0 A l.length l) (a7:l1.length≤cL1) (hC1:cI w L1 l1) (a8:l2.length≤cL2) (hC2:cI w L2 l2)
  (hN:Kd.N k33 33 w w0.heap.size okl u ls) (hok:∀ k,okl k→B1≤k∧k < w.heap.size) (hj0:0≤j) (hjl:j < (l.length:Int)) (h:jo k mass lb l1 l2 l j ls=some (s',(⟨b,p,q⟩:S33),r)) :
  Calls Try.prog 49 #[.int .i64 j,.pointer (some ⟨gm,0,none⟩),.pointer (some ⟨gl,0,none⟩),.pointer (some ⟨gt,0,none⟩),.pointer (some ⟨gv,0,none⟩)] w fun e w'=>AU w0 w gl okl b p q r s' e w':=by
 have errE:∀ (wz:World) (e:Int),e≠0→bw w wz→AU w0 w gl okl false [] [] e s' (.returned (.tuple #[.agg #[.bool false,.slice none 0 0,.slice none 0 0],.int .i64 e])) wz:=fun wz e he hb=>⟨⟨_,_,u,okl,rfl,aX hB0 hB0.size hb,hb.size,fun k hk _ _=>hb.block k hk,fun k hk=>.inl hk,fun k hk=>Nat.lt_of_lt_of_le (hok k hk).2 hb.size,zO _ _,fun h=>absurd h he⟩⟩
 have ERR:=aM errE;clear errE;have a9:=aM hB0;have HLB:=aM hl;have HVB:=aM hv;have HG:=aM a6;have HCL:=aM (And.intro a7 (And.intro hC1 (And.intro a8 hC2)));have HN:=aM hN;have HOK:=aM hok;have HGL:=aM hgl0;have HB:=aM (Below.refl w.heap.size w);obtain⟨ad,b4,b5,b6,c2,ead,b7,b8,b9,d6,hD1,d7,hD2⟩:=gT hC j hj0 hjl;subst ead;have had:=World.block_lt_of_cell? _ _ b7;have HE:=aM (And.intro d6 (And.intro (Kd.aT hD1 hB0) (And.intro d7 (Kd.aT hD2 hB0))));have hS:∀ W:World,(∀ k,k < B1→W.heap[k]?=w.heap[k]?)→W.cell? ⟨gl,0,none⟩=some u∧W.cell? ⟨gt,1,none⟩=some (.slice (some ad) l.length c)∧W.cell? ⟨gm,0,none⟩=some (.int .i64 mass)∧W.cell? (ad.add (j.toNat * 3))=some (.bool (ag l j).f0)∧W.cell? ⟨(ad.add (j.toNat * 3)).block,(ad.add (j.toNat * 3)).off+1,none⟩=some (.slice b4 (ag l j).f1.length b5)∧W.cell? ⟨(ad.add (j.toNat * 3)).block,(ad.add (j.toNat * 3)).off+2,none⟩=some (.slice b6 (ag l j).f2.length c2):=fun W hW =>
  ⟨lH (hW gl a6.2.2.2.1) ((af hl 0).trans rfl),lH (hW gt a6.2.2.2.2.1) ((af ht 1).trans rfl),lH (hW gm a6.2.2.1) ((af hm 0).trans rfl),lH (hW _ (Nat.lt_of_lt_of_le had a6.1)) (cz hB0 b7),lH (p:=⟨_,_,none⟩) (hW _ (Nat.lt_of_lt_of_le had a6.1)) (cz hB0 b8),lH (p:=⟨_,_,none⟩) (hW _ (Nat.lt_of_lt_of_le had a6.1)) (cz hB0 b9)⟩
 have HS:=aM hS;have hlo:∀ W,bw w W→∀ k,k < B1→W.heap[k]?=w.heap[k]?:=fun W hW k hk=>hW.block k (Nat.lt_of_lt_of_le hk a6.2.1)
 have HLO:=aM hlo;have pT:=eq_true hj0;have qT:=eq_true hjl;unfold jo at h;by_cases hln:ls.length≤1000
 ·rw[if_pos hln] at h;have HLN:=aM (show(ls.length+1) * 56≤140737488355328 by omega)
  have H:=aM h;clear h hln hB0 hl hv ht hm a6 a7 hC1 a8 hC2 hN hok hgl0 b7 b8 b9 d6 hD1 d7 hD2 had hS hlo hC hjl hj0;go_enter Try.func49,Try.ntmps49
  go_upto_region 1 with (first|((with_reducible refine gd 6 rfl ?_);refine bz 33 ?_;intro d8 hg d9 e6 hb;have G6:=gA w hg;replace HB:=bB hb;clear hb hg))
  have e7:=HS.out _ (HLO.out _ HB.out);obtain⟨f6,f7,f8,g5,g8,g9⟩:=e7;by_cases hz:mass=0
  ·subst hz;have h:=H.out;simp only[if_true] at h;rw[Option.bind_eq_some_iff] at h;obtain⟨⟨j3,j4,j5⟩,hcp,h⟩:=h;rw[Option.bind_eq_some_iff] at h;obtain⟨⟨j6,j7,j8⟩,hnu,h⟩:=h;injection h with h
   injection h with j9 h
   injection h with l5 l6
   injection l5 with l7 l8 l9
   simp only at j9 l6 l7 l8 l9;subst j9 l6 l7 l8 l9;have CP:=aM hcp;have NU:=aM hnu;clear hcp hnu H;go_upto_region 2 with (fail)
   clear f6 f7 f8 g5 g8 g9;have HBd:=aM HB.out.drew;have m0:=aM (az e6.out);refine gz (n:=10) (S:=fun W=>W.cell? ⟨gl,0,none⟩=some u∧W.cell? ⟨gt,1,none⟩=some (.slice (some ad) l.length c)∧W.cell? ⟨gm,0,none⟩=some (.int .i64 0)∧W.cell? (ad.add (j.toNat * 3))=some (.bool (ag l j).f0)∧W.cell? ⟨(ad.add (j.toNat * 3)).block,(ad.add (j.toNat * 3)).off+1,none⟩=some (.slice b4 (ag l j).f1.length b5)∧W.cell? ⟨(ad.add (j.toNat * 3)).block,(ad.add (j.toNat * 3)).off+2,none⟩=some (.slice b6 (ag l j).f2.length c2)) (ds:=[9]) (bA 10 0) (by kernel_rfl) rfl rfl (HS.out _ (HLO.out _ HBd.out)) (fun hHeld=>?_)
   generalize d9.drew=m4 at HBd m0 hHeld ⊢;clear HB e6;refine tV 0 14 (bA 10 1) hHeld ?_;refine pV 1 15 (bA 10 3) ?_;refine tV 2 16 (bA 10 7) hHeld ?_;refine pV 3 17 (bA 10 15) ?_;refine pV 4 18 (bA 10 31) ?_;refine tV 5 19 (bA 10 63) hHeld ?_;refine iK (i:=6) (N:=some 20) (bA 10 127) rfl rfl (by kernel_rfl) (by decide) (fun K hK=>?_)
   refine eH Try.func50 (by kernel_rfl) rfl #[.agg #[.bool (ag l j).f0,.slice b4 (ag l j).f1.length b5,.slice b6 (ag l j).f2.length c2]] (by rfl) rfl rfl mA ?_
   refine(Hzk.calls _ b4 b5 _ b6 c2 _ j3 j4 j5 m4 (Kd.aT HE.out.2.1 HBd.out) HE.out.1 (Kd.aT HE.out.2.2.2 HBd.out) HE.out.2.2.1 CP.out).mono ?_;rintro e m5 ⟨m6,m7,rfl,m8,m9,hb⟩;refine⟨_,rfl,?_⟩;have n0:=aM (aX HBd.out HBd.out.size hb);have L6:=aM (show d8 < m4.heap.size from aV m0.out)
   have n7:=aM (aD m0.out hb);have HS2:=aM HBd.out.size;have n8:=aM m8;have n9:=aM m9;clear m8 m9 hb m0 HBd;obtain⟨o0,o8,rfl⟩:=Kd.aj n8.out;obtain⟨o9,p9,rfl⟩:=Kd.aj n9.out;refine hK.out _ _ (HS.out _ (HLO.out _ n0.out)) (fun hHeld=>?_)
   clear hK K;refine nm 20 ?_;refine iK (i:=7) (N:=some 21) (bA 10 255) rfl rfl (by kernel_rfl) (by decide) (fun K hK=>?_)
   refine nP (w1:=?_) (v:=?_) (by rfl) rfl ?_ ?_
   rotate_left 2
   ·go_simp
    constructor
    ·rfl
    ·rfl
   refine hK.out _ _ (HS.out _ (HLO.out _ (dV n0.out _))) (fun hHeld=>?_)
   clear hK K;refine nm 21 ?_;refine iK (i:=8) (N:=some 22) (bA 10 511) rfl rfl (by kernel_rfl) (by decide) (fun K hK=>?_)
   have okA:∀ k,(okl k∨(w.heap.size≤k∧k≠d8))→B1≤k:=fun k hk=>hk.elim (fun h=>(HOK.out k h).1) (fun h=>Nat.le_trans HG.out.2.1 h.1)
   have OKA:=aM okA;clear okA;refine Kd.qD k33 (w0:=w0) w0.heap.size (by rfl) (.tmp 14) (.tmp 21) 22 33 (.agg #[(.bool false),(.slice none 0 0),(.slice none 0 0)]) 56 rfl Try.underlying22 pq rfl (by decide) (by omega) u ls (⟨j3,j4,j5⟩:S33) [.bool j3,.slice o0 j4.length o8,.slice o9 j5.length p9] (fun k=>okl k∨(w.heap.size≤k∧k≠d8)) (fun k=>(okl k∨(w.heap.size≤k∧k≠d8))∧some k≠u.ownBlock) rfl rfl ?aP (fun _ hk=>hk) ?aF ?aO ?aB ?aS ?aL ?_
   (case aP=>exact oW n8.out n9.out (fun k hk _=>⟨.inr ⟨Nat.le_trans HS2.out hk,fun he=>absurd hk (Nat.not_le.2 (by rw[he];exact L6.out))⟩,fun he=>absurd (Kd.kr HN.out k he.symm) (Nat.not_lt.2 (Nat.le_trans HS2.out hk))⟩))
   (case aF=>exact fun k hk=>.inr ⟨Nat.le_trans n0.out.size hk,fun he=>absurd (aV n7.out) (by rw[← he];exact Nat.not_lt.2 hk)⟩)
   (case aO=>exact Kd.aG (Kd.dQ HN.out n0.out) (fun k hk=>.inl hk))
   (case aB=>exact aX a9.out a9.out.size n0.out)
   (case aS=>exact Nat.le_trans a9.out.size n0.out.size)
   (case aL=>exact HLN.out)
   intro r6 r7 ho hb hg hat;obtain⟨ys,hys⟩:∃ y_:List S33,y_=ls ++ [(⟨j3,j4,j5⟩:S33)]:=⟨_,rfl⟩;rw[← hys] at ho;have YS:=aM hys;clear hys;have HLO4:=aM (show ∀ k,k < B1→r7.heap[k]?=w.heap[k]? from fun k hk=>(hg.block k (Nat.lt_of_lt_of_le (Nat.lt_of_lt_of_le hk HG.out.2.1) n0.out.size) (fun he=>absurd (HOK.out k (HN.out.1 k he.symm)).1 (Nat.not_le.2 hk))).trans (HLO.out _ n0.out k hk))
   have r8:=aM (show ∀ k,k < w.heap.size→¬ okl k→r7.heap[k]?=w.heap[k]? from fun k hk hn=>(hg.block k (Nat.lt_of_lt_of_le hk n0.out.size) (fun he=>hn (HN.out.1 k he.symm))).trans (n0.out.block k hk))
   have r9:=aM ((hg.block d8 (aV n7.out) (fun he=>absurd (Kd.kr HN.out _ he.symm) (Nat.not_lt.2 G6.out))).trans n7.out)
   have t4:=aM ho;have t5:=aM hb;have HS4:=aM (Nat.le_trans n0.out.size hg.size);clear ho hb hg hat n8 n9 n0 n7 HS2 L6;obtain⟨t6,t7,rfl⟩:=Kd.ek t4.out;refine hK.out _ _ (HS.out _ HLO4.out) (fun hHeld=>?_)
   clear hK K;refine nm 22 ?_;refine xW (i:=9) (N:=none) (bA 10 1023) rfl rfl (by kernel_rfl) (by decide) (fun K hK=>?_)
   have BL4:=aM ((HLO4.out gl HG.out.2.2.2.1).trans HLB.out);obtain⟨t8,t9⟩:=bk1 BL4;refine iY (w1:=?_) (by rfl) rfl ?_ ?_
   rotate_left
   ·go_simp
    rfl
   refine hK.out _ _ ?_;clear hK K t8 t9;refine gZ (by kernel_rfl) ?_
   have BL5:=aM (au BL4.out 0 (.slice t6 ys.length t7) rfl);have z3:=aM (Kd.bJ (p:=⟨gl,0,none⟩) t4.out (fun k hk he=>absurd (OKA.out k hk) (by rw[he];exact Nat.not_le.2 HG.out.2.2.2.1)) (.slice t6 ys.length t7))
   have z4:=aM (av (p:=⟨gl,0,none⟩) r9.out (fun he=>absurd G6.out (by rw[he];exact Nat.not_le.2 (Nat.lt_of_lt_of_le HG.out.2.2.2.1 HG.out.2.1))) (.slice t6 ys.length t7))
   have z5:=aM (t5.out.setCell (p:=⟨gl,0,none⟩) HGL.out (.slice t6 ys.length t7));have z6:=aM (show ∀ k,k < w.heap.size→k≠gl→¬ okl k→(r7.setCell ⟨gl,0,none⟩ (.slice t6 ys.length t7)).heap[k]?=w.heap[k]? from fun k hk hne hn=>(Below.heap_setCell r7 ⟨gl,0,none⟩ (.slice t6 ys.length t7) k hne).trans (r8.out k hk hn))
   have HS5:=aM (show w.heap.size≤(r7.setCell ⟨gl,0,none⟩ (.slice t6 ys.length t7)).heap.size by simpa using HS4.out)
   clear r9 t5 t4 r8 HS4 HLO4 BL4 hHeld;generalize r7.setCell ⟨gl,0,none⟩ (.slice t6 ys.length t7)=z7 at BL5 z3 z4 z5 z6 HS5 ⊢;go_wp2_with (first|((with_reducible refine df (f:=34) rfl ?_);refine gJ (some 23) rfl rfl Try.func34 (by kernel_rfl) rfl #[.int .i64 0] rfl (by first|exact mA|(simp [Act.eval];done)) ?_;refine(Dzk.calls k 0 j6 j7 j8 _ NU.out).mono ?_;rintro e z8 ⟨z1,z2,rfl,m8,m9,hb⟩;refine⟨_,rfl,?_⟩;have z9:=aM hb;have L5:=aM (show d8 < z7.heap.size from aV z4.out);have B0:=aM (aD z4.out hb);have HZ1:=aM m8;have HZ2:=aM m9;clear m8 m9 hb z4;obtain⟨Bo1,do1,B5⟩:=Kd.aj HZ1.out;subst B5;obtain⟨Bo2,do2,B9⟩:=Kd.aj HZ2.out;subst B9;obtain⟨t8,C0,C1,t9,C2,C3⟩:=bk3 B0))
   refine rC d8 33 #[.bool j6,.slice Bo1 j7.length do1,.slice Bo2 j8.length do2] (au (au (au B0.out 0 (.bool j6) rfl) 1 (.slice Bo1 j7.length do1) rfl) 2 (.slice Bo2 j8.length do2) rfl) Try.underlying33 ?_
   have far3:∀ k,k≠d8→(((z8.setCell ⟨d8,0,none⟩ (.bool j6)).setCell ⟨d8,1,none⟩ (.slice Bo1 j7.length do1)).setCell ⟨d8,2,none⟩ (.slice Bo2 j8.length do2)).heap[k]?=z8.heap[k]?:=fun k hk=>(Below.heap_setCell _ ⟨d8,2,none⟩ _ k hk).trans ((Below.heap_setCell _ ⟨d8,1,none⟩ _ k hk).trans (Below.heap_setCell _ ⟨d8,0,none⟩ _ k hk))
   have hsz:(((z8.setCell ⟨d8,0,none⟩ (.bool j6)).setCell ⟨d8,1,none⟩ (.slice Bo1 j7.length do1)).setCell ⟨d8,2,none⟩ (.slice Bo2 j8.length do2)).heap.size=z8.heap.size:=by simp
   have C4:∀ k,k < w.heap.size→k≠d8:=fun k hk he=>absurd G6.out (by rw[← he];exact Nat.not_le.2 hk)
   have C6:=Nat.le_trans a9.out.size G6.out;refine⟨⟨_,_,.slice t6 ys.length t7,fun k=>(okl k∨(w.heap.size≤k∧k≠d8))∧k < z7.heap.size,rfl,?_,?_,?_,?_,?_,?_,?_⟩⟩
   ·exact((((aX z5.out z5.out.size z9.out).setCell (p:=⟨d8,0,none⟩) C6 _).setCell (p:=⟨d8,1,none⟩) C6 _).setCell (p:=⟨d8,2,none⟩) C6 _)
   ·rw[hsz];exact Nat.le_trans HS5.out z9.out.size
   ·exact fun k hk hne hn=>(far3 k (C4 k hk)).trans ((z9.out.block k (Nat.lt_of_lt_of_le hk HS5.out)).trans (z6.out k hk hne hn))
   ·exact fun k hk=>hk.1.elim .inl (fun h=>.inr h.1)
   ·exact fun k hk=>by rw[hsz];exact Nat.lt_of_lt_of_le hk.2 z9.out.size
   ·have hf:∀ k,z7.heap.size≤k→k≠d8:=fun k hk he=>absurd L5.out (by rw[← he];exact Nat.not_lt.2 hk)
    exact Kd.jw (Kd.kD (oW (ok:=fun k=>z7.heap.size≤k) HZ1.out HZ2.out (fun k hk _=>hk)) (fun k hk _=>far3 k (hf k hk))) (fun k hk=>⟨Nat.le_trans HS5.out hk,fun h=>absurd h.2 (Nat.not_lt.2 hk)⟩)
   ·intro _;refine⟨(far3 gl (C4 gl (aV HLB.out))).trans ((z9.out.block gl (aV BL5.out)).trans BL5.out),?_⟩;rw[← YS.out];exact Kd.nV (Kd.dQ (Kd.iq z3.out) z9.out) (fun k hk _=>far3 k (hk.1.elim (fun h=>C4 k (HOK.out k h).2) (fun h=>h.2)))
  ·have hz2:(mass == 0)=false:=beq_eq_false_iff_ne.mpr hz;have h:=H.out;simp only[if_neg hz] at h;rw[Option.bind_eq_some_iff] at h;obtain⟨⟨C7,C8,C9⟩,hnu,h⟩:=h;rw[Option.bind_eq_some_iff] at h;obtain⟨⟨D4,D5,D6,D7⟩,hmu,h⟩:=h;have NU:=aM hnu;have MU:=aM hmu;replace H:=aM h;clear hnu hmu h;go_upto_region 4 with (fail)
   clear f6 f7 f8 g5 g8 g9;go_cut [8,9] (fun D8 D9 wc=>∃ (E0:Nat) (E1 E2:Option Addr) (f1 f2:Nat),D8=.pointer (some ⟨E0,0,none⟩)∧D9=.int .i64 D7∧ae (wc.heap[E0]?=some (.cells #[.bool D4,.slice E1 D5.length f1,.slice E2 D6.length f2] 33 (0,0)))∧ae (rI wc w (fun _=>True) (.slice E1 D5.length f1) D5)∧ae (rI wc w (fun _=>True) (.slice E2 D6.length f2) D6)∧ae (wc.heap[d8]?=some (.cells #[.bool false,.slice none 0 0,.slice none 0 0] 33 (0,0)))∧ae (d8≠E0)∧ae (w.heap.size≤E0)∧ae (bw w wc))
   case first =>
    have HB_w2:=aM HB.out.drew;have E3:=aM (az e6.out);refine gz (n:=14) (S:=fun W=>W.cell? ⟨gl,0,none⟩=some u∧W.cell? ⟨gt,1,none⟩=some (.slice (some ad) l.length c)∧W.cell? ⟨gm,0,none⟩=some (.int .i64 mass)∧W.cell? (ad.add (j.toNat * 3))=some (.bool (ag l j).f0)∧W.cell? ⟨(ad.add (j.toNat * 3)).block,(ad.add (j.toNat * 3)).off+1,none⟩=some (.slice b4 (ag l j).f1.length b5)∧W.cell? ⟨(ad.add (j.toNat * 3)).block,(ad.add (j.toNat * 3)).off+2,none⟩=some (.slice b6 (ag l j).f2.length c2)) (ds:=[]) (bA 14 0) (by kernel_rfl) rfl rfl (HS.out _ (HLO.out _ HB_w2.out)) (fun hHeld=>?_)
    generalize d9.drew=m4 at HB_w2 E3 hHeld ⊢;clear HB e6;refine pV 0 25 (bA 14 1) ?_;refine tV 1 26 (bA 14 3) hHeld ?_;refine pV 2 27 (bA 14 7) ?_;refine pV 3 28 (bA 14 15) ?_;refine tV 4 29 (bA 14 31) hHeld ?_;refine tV 5 30 (bA 14 63) hHeld ?_;refine wT (i:=6) (j:=11) (Ni:=some 31) (Nj:=some 8) (bA 14 127) (bA 14 2111) rfl rfl rfl rfl (by kernel_rfl) (by decide) (by decide) (fun K hK=>?_) (fun K hK=>?_)
    ·refine eH Try.func34 (by kernel_rfl) rfl #[.int .i64 mass] (by rfl) rfl rfl mA ?_
     refine(Dzk.calls k mass C7 C8 C9 _ NU.out).mono ?_;rintro e E4 ⟨m6,m7,rfl,m8,m9,hb⟩;refine⟨_,rfl,?_⟩;obtain⟨M1,d1,B5⟩:=Kd.aj m8;subst B5;obtain⟨M2,d2,B9⟩:=Kd.aj m9;subst B9;have HB_w25:=aM (aX HB_w2.out HB_w2.out.size hb);have E5:=aM (aD E3.out hb);have HM_w25:=aM (And.intro (Kd.ax m8).2.1 (And.intro (Kd.ax m8).2.2 (And.intro (Kd.ax m9).2.1 (Kd.ax m9).2.2)));clear m8 m9 hb;refine hK.out _ _ (HS.out _ (HLO.out _ HB_w25.out)) (fun hHeld=>?_)
     clear hK K;refine nm 31 ?_;refine wT (i:=7) (j:=11) (Ni:=some 32) (Nj:=some 8) (bA 14 255) (bA 14 2175) rfl rfl rfl rfl (by kernel_rfl) (by decide) (by decide) (fun K hK=>?_) (fun K hK=>?_)
     ·refine eH Try.func51 (by kernel_rfl) rfl #[.agg #[.bool (ag l j).f0,.slice b4 (ag l j).f1.length b5,.slice b6 (ag l j).f2.length c2],.agg #[.bool C7,.slice M1 C8.length d1,.slice M2 C9.length d2]] (by rfl) rfl rfl mA ?_
      refine(Ezk.calls k _ b4 b5 _ b6 c2 _ _ M1 d1 _ M2 d2 _ D4 D5 D6 D7 _ (Kd.aT HE.out.2.1 HB_w25.out) HE.out.1 (Kd.aT HE.out.2.2.2 HB_w25.out) HE.out.2.2.1 HM_w25.out.2.1 HM_w25.out.1 HM_w25.out.2.2.2 HM_w25.out.2.2.1 MU.out).mono ?_;rintro e E6 ⟨m6,m7,rfl,m8,m9,hb⟩;refine⟨_,rfl,?_⟩;obtain⟨E1,f1,B5⟩:=Kd.aj m8;subst B5;obtain⟨E2,f2,B9⟩:=Kd.aj m9;subst B9;have HB_w26:=aM (aX HB_w25.out HB_w25.out.size hb);have E7:=aM (aD E5.out hb);have HM_w26:=aM (And.intro HM_w25.out.1 (And.intro (Kd.aT HM_w25.out.2.1 hb) (And.intro HM_w25.out.2.2.1 (Kd.aT HM_w25.out.2.2.2 hb))));have E8:=aM (Kd.ah (ok':=fun _=>True) (Kd.dO m8 HB_w25.out.size) (fun _ _=>trivial))
      have E9:=aM (Kd.ah (ok':=fun _=>True) (Kd.dO m9 HB_w25.out.size) (fun _ _=>trivial))
      clear m8 m9 hb;refine hK.out _ _ (HS.out _ (HLO.out _ HB_w26.out)) (fun hHeld=>?_)
      clear hK K;refine nm 32 ?_;refine pV 8 24 (bA 14 511) ?_;refine pV 9 33 (bA 14 1023) ?_;refine pV 10 34 (bA 14 2047) ?_;refine iK (i:=11) (N:=some 8) (bA 14 4095) rfl rfl (by kernel_rfl) (by decide) (fun K hK=>?_)
      refine jd ?hg (N:=8) ?hd (cs:=#[.bool false,.slice none 0 0,.slice none 0 0]) (t:=33) ?hr ?_;(case hd=>rfl);(case hg=>rfl);(case hr=>first|(go_simp;done)|(go_simp;rfl))
      intro gbn hg F0 hbox hb;have Gn:=aM (show w.heap.size≤gbn by rw[hg];exact HB_w26.out.size)
      have Nn:=aM (show d8≠gbn by rw[hg];exact Nat.ne_of_lt (aV E7.out))
      clear hg;have HB_w27:=aM (aX HB_w26.out HB_w26.out.size hb);have F2:=aM (aD E7.out hb);have HM_w27:=aM (And.intro HM_w26.out.1 (And.intro (Kd.aT HM_w26.out.2.1 hb) (And.intro HM_w26.out.2.2.1 (Kd.aT HM_w26.out.2.2.2 hb))));have F3:=aM (Kd.fM E8.out hb);have F4:=aM (Kd.fM E9.out hb);have BKn_w27:=aM hbox;clear hbox hb;refine hK.out _ _ (HS.out _ (HLO.out _ HB_w27.out)) (fun hHeld=>?_)
      clear hK K;refine nm 8 ?_;refine iK (i:=12) (N:=none) (bA 14 8191) rfl rfl (by kernel_rfl) (by decide) (fun K hK=>?_)
      obtain⟨t8,C0,C1,t9,C2,C3⟩:=bk3 BKn_w27;refine iY (w1:=?_) (by rfl) rfl ?_ ?_
      rotate_left
      ·go_simp
       rfl
      have HBz:=aM (((HB_w27.out.setCell (p:=⟨gbn,0,none⟩) Gn.out (.bool D4)).setCell (p:=⟨gbn,1,none⟩) Gn.out (.slice E1 D5.length f1)).setCell (p:=⟨gbn,2,none⟩) Gn.out (.slice E2 D6.length f2));have fr:∀ (v:Value) (xs:List Int) (base:Nat),Kd.R (Kd.int .i64) 3 F0 base (fun _=>True) v xs→Kd.R (Kd.int .i64) 3 (((F0.setCell ⟨gbn,0,none⟩ (.bool D4)).setCell ⟨gbn,1,none⟩ (.slice E1 D5.length f1)).setCell ⟨gbn,2,none⟩ (.slice E2 D6.length f2)) base (fun _=>True) v xs:=fun v xs base hv=>Kd.ah (Kd.bF (p:=⟨gbn,2,none⟩) (Kd.bF (p:=⟨gbn,1,none⟩) (Kd.bF (p:=⟨gbn,0,none⟩) (Kd.aA hv BKn_w27.out (by decide)) (fun _ hk=>hk.2) (.bool D4)) (fun _ hk=>hk.2) (.slice E1 D5.length f1)) (fun _ hk=>hk.2) (.slice E2 D6.length f2)) (fun _ _=>trivial)
      have HZ1:=aM (fr _ _ _ F3.out);have HZ2:=aM (fr _ _ _ F4.out);have F5:=aM (av (p:=⟨gbn,2,none⟩) (av (p:=⟨gbn,1,none⟩) (av (p:=⟨gbn,0,none⟩) F2.out Nn.out (.bool D4)) Nn.out (.slice E1 D5.length f1)) Nn.out (.slice E2 D6.length f2));have BKz:=aM (au (au (au BKn_w27.out 0 (.bool D4) rfl) 1 (.slice E1 D5.length f1) rfl) 2 (.slice E2 D6.length f2) rfl);refine hK.out _ _ (HS.out _ (HLO.out _ HBz.out)) (fun hHeld=>?_)
      clear hK K;refine pV 13 9 (bA 14 16383) ?_;refine gZ (by kernel_rfl) ?_
      go_wp2
      go_meet
      case rel=>exact⟨gbn,E1,E2,f1,f2,rfl,rfl,BKz,HZ1,HZ2,F5,Nn,Gn,HBz⟩
     ·refine jd ?hg (N:=8) ?hd (cs:=#[.bool false,.slice none 0 0,.slice none 0 0]) (t:=33) ?hr ?_;(case hd=>rfl);(case hg=>rfl);(case hr=>first|(go_simp;done)|(go_simp;rfl))
      intro gbn hg F6 hbox hb;have Gn:=aM (show w.heap.size≤gbn by rw[hg];exact HB_w25.out.size)
      have Nn:=aM (show d8≠gbn by rw[hg];exact Nat.ne_of_lt (aV E5.out))
      clear hg;have HB_w28:=aM (aX HB_w25.out HB_w25.out.size hb);have F7:=aM (aD E5.out hb);have HM_w28:=aM (And.intro HM_w25.out.1 (And.intro (Kd.aT HM_w25.out.2.1 hb) (And.intro HM_w25.out.2.2.1 (Kd.aT HM_w25.out.2.2.2 hb))));have BKn_w28:=aM hbox;clear hbox hb;refine hK.out _ _ (HS.out _ (HLO.out _ HB_w28.out)) (fun hHeld=>?_)
      clear hK K;refine nm 8 ?_;refine iK (i:=7) (N:=some 32) (bA 14 2303) rfl rfl (by kernel_rfl) (by decide) (fun K hK=>?_)
      refine eH Try.func51 (by kernel_rfl) rfl #[.agg #[.bool (ag l j).f0,.slice b4 (ag l j).f1.length b5,.slice b6 (ag l j).f2.length c2],.agg #[.bool C7,.slice M1 C8.length d1,.slice M2 C9.length d2]] (by rfl) rfl rfl mA ?_
      refine(Ezk.calls k _ b4 b5 _ b6 c2 _ _ M1 d1 _ M2 d2 _ D4 D5 D6 D7 _ (Kd.aT HE.out.2.1 HB_w28.out) HE.out.1 (Kd.aT HE.out.2.2.2 HB_w28.out) HE.out.2.2.1 HM_w28.out.2.1 HM_w28.out.1 HM_w28.out.2.2.2 HM_w28.out.2.2.1 MU.out).mono ?_;rintro e F8 ⟨m6,m7,rfl,m8,m9,hb⟩;refine⟨_,rfl,?_⟩;obtain⟨E1,f1,B5⟩:=Kd.aj m8;subst B5;obtain⟨E2,f2,B9⟩:=Kd.aj m9;subst B9;have HB_w29:=aM (aX HB_w28.out HB_w28.out.size hb);have F9:=aM (aD F7.out hb);have BKn_w29:=aM (aD BKn_w28.out hb);have HM_w29:=aM (And.intro HM_w28.out.1 (And.intro (Kd.aT HM_w28.out.2.1 hb) (And.intro HM_w28.out.2.2.1 (Kd.aT HM_w28.out.2.2.2 hb))));have G5:=aM (Kd.ah (ok':=fun _=>True) (Kd.dO m8 HB_w28.out.size) (fun _ _=>trivial))
      have G9:=aM (Kd.ah (ok':=fun _=>True) (Kd.dO m9 HB_w28.out.size) (fun _ _=>trivial))
      clear m8 m9 hb;refine hK.out _ _ (HS.out _ (HLO.out _ HB_w29.out)) (fun hHeld=>?_)
      clear hK K;refine nm 32 ?_;refine pV 8 24 (bA 14 2559) ?_;refine pV 9 33 (bA 14 3071) ?_;refine pV 10 34 (bA 14 4095) ?_;refine iK (i:=12) (N:=none) (bA 14 8191) rfl rfl (by kernel_rfl) (by decide) (fun K hK=>?_)
      obtain⟨t8,C0,C1,t9,C2,C3⟩:=bk3 BKn_w29;refine iY (w1:=?_) (by rfl) rfl ?_ ?_
      rotate_left
      ·go_simp
       rfl
      have HBz:=aM (((HB_w29.out.setCell (p:=⟨gbn,0,none⟩) Gn.out (.bool D4)).setCell (p:=⟨gbn,1,none⟩) Gn.out (.slice E1 D5.length f1)).setCell (p:=⟨gbn,2,none⟩) Gn.out (.slice E2 D6.length f2));have fr:∀ (v:Value) (xs:List Int) (base:Nat),Kd.R (Kd.int .i64) 3 F8 base (fun _=>True) v xs→Kd.R (Kd.int .i64) 3 (((F8.setCell ⟨gbn,0,none⟩ (.bool D4)).setCell ⟨gbn,1,none⟩ (.slice E1 D5.length f1)).setCell ⟨gbn,2,none⟩ (.slice E2 D6.length f2)) base (fun _=>True) v xs:=fun v xs base hv=>Kd.ah (Kd.bF (p:=⟨gbn,2,none⟩) (Kd.bF (p:=⟨gbn,1,none⟩) (Kd.bF (p:=⟨gbn,0,none⟩) (Kd.aA hv BKn_w29.out (by decide)) (fun _ hk=>hk.2) (.bool D4)) (fun _ hk=>hk.2) (.slice E1 D5.length f1)) (fun _ hk=>hk.2) (.slice E2 D6.length f2)) (fun _ _=>trivial)
      have HZ1:=aM (fr _ _ _ G5.out);have HZ2:=aM (fr _ _ _ G9.out);have F5:=aM (av (p:=⟨gbn,2,none⟩) (av (p:=⟨gbn,1,none⟩) (av (p:=⟨gbn,0,none⟩) F9.out Nn.out (.bool D4)) Nn.out (.slice E1 D5.length f1)) Nn.out (.slice E2 D6.length f2));have BKz:=aM (au (au (au BKn_w29.out 0 (.bool D4) rfl) 1 (.slice E1 D5.length f1) rfl) 2 (.slice E2 D6.length f2) rfl);refine hK.out _ _ (HS.out _ (HLO.out _ HBz.out)) (fun hHeld=>?_)
      clear hK K;refine pV 13 9 (bA 14 16383) ?_;refine gZ (by kernel_rfl) ?_
      go_wp2
      go_meet
      case rel=>exact⟨gbn,E1,E2,f1,f2,rfl,rfl,BKz,HZ1,HZ2,F5,Nn,Gn,HBz⟩
    ·refine jd ?hg (N:=8) ?hd (cs:=#[.bool false,.slice none 0 0,.slice none 0 0]) (t:=33) ?hr ?_;(case hd=>rfl);(case hg=>rfl);(case hr=>first|(go_simp;done)|(go_simp;rfl))
     intro gbn hg H5 hbox hb;have Gn:=aM (show w.heap.size≤gbn by rw[hg];exact HB_w2.out.size)
     have Nn:=aM (show d8≠gbn by rw[hg];exact Nat.ne_of_lt (aV E3.out))
     clear hg;have HB_w30:=aM (aX HB_w2.out HB_w2.out.size hb);have H6:=aM (aD E3.out hb);have BKn_w30:=aM hbox;clear hbox hb;refine hK.out _ _ (HS.out _ (HLO.out _ HB_w30.out)) (fun hHeld=>?_)
     clear hK K;refine nm 8 ?_;refine iK (i:=6) (N:=some 31) (bA 14 2175) rfl rfl (by kernel_rfl) (by decide) (fun K hK=>?_)
     refine eH Try.func34 (by kernel_rfl) rfl #[.int .i64 mass] (by rfl) rfl rfl mA ?_
     refine(Dzk.calls k mass C7 C8 C9 _ NU.out).mono ?_;rintro e H7 ⟨m6,m7,rfl,m8,m9,hb⟩;refine⟨_,rfl,?_⟩;obtain⟨M1,d1,B5⟩:=Kd.aj m8;subst B5;obtain⟨M2,d2,B9⟩:=Kd.aj m9;subst B9;have HB_w31:=aM (aX HB_w30.out HB_w30.out.size hb);have H8:=aM (aD H6.out hb);have BKn_w31:=aM (aD BKn_w30.out hb);have HM_w31:=aM (And.intro (Kd.ax m8).2.1 (And.intro (Kd.ax m8).2.2 (And.intro (Kd.ax m9).2.1 (Kd.ax m9).2.2)));clear m8 m9 hb;refine hK.out _ _ (HS.out _ (HLO.out _ HB_w31.out)) (fun hHeld=>?_)
     clear hK K;refine nm 31 ?_;refine iK (i:=7) (N:=some 32) (bA 14 2303) rfl rfl (by kernel_rfl) (by decide) (fun K hK=>?_)
     refine eH Try.func51 (by kernel_rfl) rfl #[.agg #[.bool (ag l j).f0,.slice b4 (ag l j).f1.length b5,.slice b6 (ag l j).f2.length c2],.agg #[.bool C7,.slice M1 C8.length d1,.slice M2 C9.length d2]] (by rfl) rfl rfl mA ?_
     refine(Ezk.calls k _ b4 b5 _ b6 c2 _ _ M1 d1 _ M2 d2 _ D4 D5 D6 D7 _ (Kd.aT HE.out.2.1 HB_w31.out) HE.out.1 (Kd.aT HE.out.2.2.2 HB_w31.out) HE.out.2.2.1 HM_w31.out.2.1 HM_w31.out.1 HM_w31.out.2.2.2 HM_w31.out.2.2.1 MU.out).mono ?_;rintro e H9 ⟨m6,m7,rfl,m8,m9,hb⟩;refine⟨_,rfl,?_⟩;obtain⟨E1,f1,B5⟩:=Kd.aj m8;subst B5;obtain⟨E2,f2,B9⟩:=Kd.aj m9;subst B9;have HB_w32:=aM (aX HB_w31.out HB_w31.out.size hb);have I0:=aM (aD H8.out hb);have BKn_w32:=aM (aD BKn_w31.out hb);have HM_w32:=aM (And.intro HM_w31.out.1 (And.intro (Kd.aT HM_w31.out.2.1 hb) (And.intro HM_w31.out.2.2.1 (Kd.aT HM_w31.out.2.2.2 hb))));have I3:=aM (Kd.ah (ok':=fun _=>True) (Kd.dO m8 HB_w31.out.size) (fun _ _=>trivial))
     have I4:=aM (Kd.ah (ok':=fun _=>True) (Kd.dO m9 HB_w31.out.size) (fun _ _=>trivial))
     clear m8 m9 hb;refine hK.out _ _ (HS.out _ (HLO.out _ HB_w32.out)) (fun hHeld=>?_)
     clear hK K;refine nm 32 ?_;refine pV 8 24 (bA 14 2559) ?_;refine pV 9 33 (bA 14 3071) ?_;refine pV 10 34 (bA 14 4095) ?_;refine iK (i:=12) (N:=none) (bA 14 8191) rfl rfl (by kernel_rfl) (by decide) (fun K hK=>?_)
     obtain⟨t8,C0,C1,t9,C2,C3⟩:=bk3 BKn_w32;refine iY (w1:=?_) (by rfl) rfl ?_ ?_
     rotate_left
     ·go_simp
      rfl
     have HBz:=aM (((HB_w32.out.setCell (p:=⟨gbn,0,none⟩) Gn.out (.bool D4)).setCell (p:=⟨gbn,1,none⟩) Gn.out (.slice E1 D5.length f1)).setCell (p:=⟨gbn,2,none⟩) Gn.out (.slice E2 D6.length f2));have fr:∀ (v:Value) (xs:List Int) (base:Nat),Kd.R (Kd.int .i64) 3 H9 base (fun _=>True) v xs→Kd.R (Kd.int .i64) 3 (((H9.setCell ⟨gbn,0,none⟩ (.bool D4)).setCell ⟨gbn,1,none⟩ (.slice E1 D5.length f1)).setCell ⟨gbn,2,none⟩ (.slice E2 D6.length f2)) base (fun _=>True) v xs:=fun v xs base hv=>Kd.ah (Kd.bF (p:=⟨gbn,2,none⟩) (Kd.bF (p:=⟨gbn,1,none⟩) (Kd.bF (p:=⟨gbn,0,none⟩) (Kd.aA hv BKn_w32.out (by decide)) (fun _ hk=>hk.2) (.bool D4)) (fun _ hk=>hk.2) (.slice E1 D5.length f1)) (fun _ hk=>hk.2) (.slice E2 D6.length f2)) (fun _ _=>trivial)
     have HZ1:=aM (fr _ _ _ I3.out);have HZ2:=aM (fr _ _ _ I4.out);have F5:=aM (av (p:=⟨gbn,2,none⟩) (av (p:=⟨gbn,1,none⟩) (av (p:=⟨gbn,0,none⟩) I0.out Nn.out (.bool D4)) Nn.out (.slice E1 D5.length f1)) Nn.out (.slice E2 D6.length f2));have BKz:=aM (au (au (au BKn_w32.out 0 (.bool D4) rfl) 1 (.slice E1 D5.length f1) rfl) 2 (.slice E2 D6.length f2) rfl);refine hK.out _ _ (HS.out _ (HLO.out _ HBz.out)) (fun hHeld=>?_)
     clear hK K;refine pV 13 9 (bA 14 16383) ?_;refine gZ (by kernel_rfl) ?_
     go_wp2
     go_meet
     case rel=>exact⟨gbn,E1,E2,f1,f2,rfl,rfl,BKz,HZ1,HZ2,F5,Nn,Gn,HBz⟩
   case rest =>
    obtain⟨E0,E1,E2,f1,f2,rfl,rfl,I5,I6,I7,I8,N68,G8,HBc⟩:=hcut;by_cases hr:D7=0
    ·subst hr;have h:=H.out;simp only[if_true] at h;rw[Option.bind_eq_some_iff] at h;obtain⟨⟨j3,j4,j5,I9⟩,hdv,h⟩:=h;have DV:=aM hdv;replace H:=aM h;clear hdv h;have BVc:=aM ((HLO.out _ HBc.out gv HG.out.2.2.2.2.2).trans HVB.out);have HLc:=aM (And.intro (Kd.aT HCL.out.2.1 HBc.out) (Kd.aT HCL.out.2.2.2 HBc.out));obtain⟨t8,C0,C1,t9,C2,C3⟩:=bk3 I5;obtain⟨hdz_0,hdz_1,hdz_2,hgz_0,hgz_1,hgz_2⟩:=bk3 BVc;go_upto_region 8 with (first|((with_reducible refine df (f:=52) rfl ?_);refine gJ (some 42) rfl rfl Try.func52 (by kernel_rfl) rfl #[.agg #[.bool D4,.slice E1 D5.length f1,.slice E2 D6.length f2],.agg #[.bool lb,.slice L1 l1.length cL1,.slice L2 l2.length cL2]] rfl (by first|exact mA|(simp [Act.eval];done)) ?_;refine(Gzb.calls k D4 _ E1 f1 D5 _ E2 f2 D6 lb (fun k_=>k_ < wc.heap.size) L1 cL1 l1 (fun k_=>k_ < wc.heap.size) L2 cL2 l2 j3 j4 j5 I9 wc (Kd.R_V (Kd.dJ rfl I6.out)) (Kd.R_V (Kd.dJ rfl I7.out)) (Kd.jI HCL.out.1 (Kd.C_F (Kd.dZ .i64) HLc.out.1)) (Kd.jI HCL.out.2.2.1 (Kd.C_F (Kd.dZ .i64) HLc.out.2)) DV.out).mono ?_;rintro e H5 ⟨m6,m7,rfl,m8,m9,hb⟩;refine⟨_,rfl,?_⟩;obtain⟨X1,g1,B5⟩:=Kd.aj m8;subst B5;obtain⟨X2,g2,B9⟩:=Kd.aj m9;subst B9;have J0:=aM (Kd.ah (ok':=fun _=>True) (Kd.dO m8 HBc.out.size) (fun _ _=>trivial));have J1:=aM (Kd.ah (ok':=fun _=>True) (Kd.dO m9 HBc.out.size) (fun _ _=>trivial));have J2:=aM (aX HBc.out HBc.out.size hb);have J3:=aM (aD I8.out hb);clear m8 m9 hb t8 C0 C1 t9 C2 C3 hdz_0 hdz_1 hdz_2 hgz_0 hgz_1 hgz_2 I6 I7 BVc HLc I5 HBc I8)|((with_reducible refine gd 10 rfl ?_);refine bz 33 ?_;intro J4 hg H7 J5 hb;have G10:=aM (show w.heap.size≤J4 by rw[hg];exact J2.out.size);have N610:=aM (show d8≠J4 by rw[hg];exact Nat.ne_of_lt (aV J3.out));have J6:=aM (aX J2.out J2.out.size hb);have J7:=aM (aD J3.out hb);have HY1:=aM (Kd.fM J0.out hb);have HY2:=aM (Kd.fM J1.out hb);clear hb hg J0 J1 J2 J3;obtain⟨t8,C0,C1,t9,C2,C3⟩:=bk3 J5))
     have fr:∀ (v:Value) (xs:List Int),rI H7 w (fun _=>True) v xs→Kd.R (Kd.int .i64) 3 (((H7.setCell ⟨J4,0,none⟩ (.bool j3)).setCell ⟨J4,1,none⟩ (.slice X1 j4.length g1)).setCell ⟨J4,2,none⟩ (.slice X2 j5.length g2)) w.heap.size (fun _=>True) v xs:=fun v xs hv=>Kd.ah (Kd.bF (p:=⟨J4,2,none⟩) (Kd.bF (p:=⟨J4,1,none⟩) (Kd.bF (p:=⟨J4,0,none⟩) (Kd.aA hv J5.out (by decide)) (fun _ hk=>hk.2) _) (fun _ hk=>hk.2) _) (fun _ hk=>hk.2) _) (fun _ _=>trivial)
     have J0:=aM (fr _ _ HY1.out);have J1:=aM (fr _ _ HY2.out);have J8:=aM (au (au (au J5.out 0 (.bool j3) rfl) 1 (.slice X1 j4.length g1) rfl) 2 (.slice X2 j5.length g2) rfl);have J9:=aM (av (p:=⟨J4,2,none⟩) (av (p:=⟨J4,1,none⟩) (av (p:=⟨J4,0,none⟩) J7.out N610.out (.bool j3)) N610.out (.slice X1 j4.length g1)) N610.out (.slice X2 j5.length g2));have K0:=aM (((J6.out.setCell (p:=⟨J4,0,none⟩) G10.out (.bool j3)).setCell (p:=⟨J4,1,none⟩) G10.out (.slice X1 j4.length g1)).setCell (p:=⟨J4,2,none⟩) G10.out (.slice X2 j5.length g2));clear fr HY1 HY2 J5 J7 J6 t8 C0 C1 t9 C2 C3;generalize (((H7.setCell { block:=J4,off:=0 } (Value.bool j3)).setCell { block:=J4,off:=1 } (Value.slice X1 j4.length g1)).setCell { block:=J4,off:=2 } (Value.slice X2 j5.length g2))=H9 at J0 J1 J8 J9 K0 ⊢;by_cases hr:I9=0
     ·subst hr;have h:=H.out;simp only[if_true] at h;rw[Option.bind_eq_some_iff] at h;obtain⟨⟨K1,K2,K3,K4⟩,hts,h⟩:=h;injection h with h
      injection h with j9 h
      injection h with l5 l6
      injection l5 with l7 l8 l9
      simp only at j9 l6 l7 l8 l9;subst j9 l6 l7 l8 l9;have TS:=aM hts;clear hts;have HXC:=aM (And.intro (Kd.ax J0.out).2.1 (And.intro (Kd.ax J0.out).2.2 (And.intro (Kd.ax J1.out).2.1 (Kd.ax J1.out).2.2)));have XF:=aM (CW j3 J0.out J1.out);have XO:=aM (show ∀ k,(some k=(.slice X1 j4.length g1:Value).ownBlock∨some k=(.slice X2 j5.length g2:Value).ownBlock)→w.heap.size≤k∧k < H9.heap.size∧k≠d8 from fun k hk=>hk.elim (fun h=>⟨Kd.dW J0.out k h.symm,Kd.dS J0.out k h.symm,fun he=>Kd.xQ J0.out J9.out (by decide) (he ▸ h)⟩) (fun h=>⟨Kd.dW J1.out k h.symm,Kd.dS J1.out k h.symm,fun he=>Kd.xQ J1.out J9.out (by decide) (he ▸ h)⟩))
      have hS2:∀ W:World,Below H9.heap.size H9 W→W.cell? ⟨gl,0,none⟩=some u∧W.cell? ⟨gt,1,none⟩=some (.slice (some ad) l.length c)∧W.cell? ⟨gm,0,none⟩=some (.int .i64 mass)∧W.cell? (ad.add (j.toNat * 3))=some (.bool (ag l j).f0)∧W.cell? ⟨(ad.add (j.toNat * 3)).block,(ad.add (j.toNat * 3)).off+1,none⟩=some (.slice b4 (ag l j).f1.length b5)∧W.cell? ⟨(ad.add (j.toNat * 3)).block,(ad.add (j.toNat * 3)).off+2,none⟩=some (.slice b6 (ag l j).f2.length c2)∧W.cell? ⟨J4,0,none⟩=some (.bool j3)∧W.cell? ⟨J4,1,none⟩=some (.slice X1 j4.length g1)∧W.cell? ⟨J4,2,none⟩=some (.slice X2 j5.length g2):=fun W hW=>by
       obtain⟨f6,f7,f8,g5,g8,g9⟩:=HS.out W (HLO.out W (aX K0.out K0.out.size hW));obtain⟨K5,K1,K2,_⟩:=bk3 J8;exact⟨f6,f7,f8,g5,g8,g9,cz hW K5,cz hW K1,cz hW K2⟩
      have HS2:=aM hS2;clear hS2;go_upto_region 10 with (fail)
      go_cut [11,9] (fun K6 D9 wc=>∃ (K7:Nat) (E1 E2:Option Addr) (f1 f2:Nat),K6=.pointer (some ⟨K7,0,none⟩)∧D9=.int .i64 K4∧ae (wc.heap[K7]?=some (.cells #[.bool K1,.slice E1 K2.length f1,.slice E2 K3.length f2] 33 (0,0)))∧ae (Kd.R (Kd.int .i64) 3 wc H9.heap.size (fun _=>True) (.slice E1 K2.length f1) K2)∧ae (Kd.R (Kd.int .i64) 3 wc H9.heap.size (fun _=>True) (.slice E2 K3.length f2) K3)∧ae (H9.heap.size≤K7)∧ae (Below H9.heap.size H9 wc))
      case first =>
       have HB_w33:=aM (Below.refl H9.heap.size H9).drew;refine gz (n:=13) (S:=fun W=>W.cell? ⟨gl,0,none⟩=some u∧W.cell? ⟨gt,1,none⟩=some (.slice (some ad) l.length c)∧W.cell? ⟨gm,0,none⟩=some (.int .i64 mass)∧W.cell? (ad.add (j.toNat * 3))=some (.bool (ag l j).f0)∧W.cell? ⟨(ad.add (j.toNat * 3)).block,(ad.add (j.toNat * 3)).off+1,none⟩=some (.slice b4 (ag l j).f1.length b5)∧W.cell? ⟨(ad.add (j.toNat * 3)).block,(ad.add (j.toNat * 3)).off+2,none⟩=some (.slice b6 (ag l j).f2.length c2)∧W.cell? ⟨J4,0,none⟩=some (.bool j3)∧W.cell? ⟨J4,1,none⟩=some (.slice X1 j4.length g1)∧W.cell? ⟨J4,2,none⟩=some (.slice X2 j5.length g2)) (ds:=[]) (bA 13 0) (by kernel_rfl) rfl rfl (HS2.out _ HB_w33.out) (fun hHeld=>?_)
       generalize H9.drew=K8 at HB_w33 hHeld ⊢;refine pV 0 50 (bA 13 1) ?_;refine tV 1 51 (bA 13 3) hHeld ?_;refine pV 2 52 (bA 13 7) ?_;refine pV 3 53 (bA 13 15) ?_;refine tV 4 54 (bA 13 31) hHeld ?_;refine tV 5 55 (bA 13 63) hHeld ?_;refine wT (i:=6) (j:=10) (Ni:=some 56) (Nj:=some 11) (bA 13 127) (bA 13 1087) rfl rfl rfl rfl (by kernel_rfl) (by decide) (by decide) (fun K hK=>?_) (fun K hK=>?_)
       ·have HE_w33:=aM (aX K0.out K0.out.size HB_w33.out);refine eH Try.func53 (by kernel_rfl) rfl #[.agg #[.bool (ag l j).f0,.slice b4 (ag l j).f1.length b5,.slice b6 (ag l j).f2.length c2],.agg #[.bool j3,.slice X1 j4.length g1,.slice X2 j5.length g2]] (by rfl) rfl rfl mA ?_
        refine(Gzq.calls k _ (fun k_=>k_ < w.heap.size) b4 b5 _ (fun k_=>k_ < w.heap.size) b6 c2 _ j3 (fun k_=>k_ < H9.heap.size) X1 g1 j4 (fun k_=>k_ < H9.heap.size) X2 g2 j5 K1 K2 K3 K4 _ (Kd.jI HE.out.1 (Kd.eX (Kd.C_F (Kd.dZ .i64) HE.out.2.1) HE_w33.out)) (Kd.jI HE.out.2.2.1 (Kd.eX (Kd.C_F (Kd.dZ .i64) HE.out.2.2.2) HE_w33.out)) (Kd.jI HXC.out.1 (Kd.eX (Kd.C_F (Kd.dZ .i64) HXC.out.2.1) HB_w33.out)) (Kd.jI HXC.out.2.2.1 (Kd.eX (Kd.C_F (Kd.dZ .i64) HXC.out.2.2.2) HB_w33.out)) TS.out).mono ?_
        rintro e L9 ⟨m6,m7,rfl,m8,m9,hb⟩;refine⟨_,rfl,?_⟩;obtain⟨E1,f1,B5⟩:=Kd.aj m8;subst B5;obtain⟨E2,f2,B9⟩:=Kd.aj m9;subst B9;have HB_w21:=aM (aX HB_w33.out HB_w33.out.size hb);have M0:=aM (Kd.ah (ok':=fun _=>True) (Kd.dO m8 HB_w33.out.size) (fun _ _=>trivial))
        have M3:=aM (Kd.ah (ok':=fun _=>True) (Kd.dO m9 HB_w33.out.size) (fun _ _=>trivial))
        clear m8 m9 hb;refine hK.out _ _ (HS2.out _ HB_w21.out) (fun hHeld=>?_)
        clear hK K;refine nm 56 ?_;refine pV 7 49 (bA 13 255) ?_;refine pV 8 57 (bA 13 511) ?_;refine pV 9 58 (bA 13 1023) ?_;refine iK (i:=10) (N:=some 11) (bA 13 2047) rfl rfl (by kernel_rfl) (by decide) (fun K hK=>?_)
        refine jd ?hg (N:=11) ?hd (cs:=#[.bool false,.slice none 0 0,.slice none 0 0]) (t:=33) ?hr ?_;(case hd=>rfl);(case hg=>rfl);(case hr=>first|(go_simp;done)|(go_simp;rfl))
        intro gbn hg M4 hbox hb;have Gn:=aM (show H9.heap.size≤gbn by rw[hg];exact HB_w21.out.size)
        clear hg;have HB_w22:=aM (aX HB_w21.out HB_w21.out.size hb);have M5:=aM (Kd.fM M0.out hb);have M6:=aM (Kd.fM M3.out hb);have BKn_w22:=aM hbox;clear hbox hb;refine hK.out _ _ (HS2.out _ HB_w22.out) (fun hHeld=>?_)
        clear hK K;refine nm 11 ?_;refine iK (i:=11) (N:=none) (bA 13 4095) rfl rfl (by kernel_rfl) (by decide) (fun K hK=>?_)
        obtain⟨t8,C0,C1,t9,C2,C3⟩:=bk3 BKn_w22;refine iY (w1:=?_) (by rfl) rfl ?_ ?_
        rotate_left
        ·go_simp
         rfl
        have HBz:=aM (((HB_w22.out.setCell (p:=⟨gbn,0,none⟩) Gn.out (.bool K1)).setCell (p:=⟨gbn,1,none⟩) Gn.out (.slice E1 K2.length f1)).setCell (p:=⟨gbn,2,none⟩) Gn.out (.slice E2 K3.length f2));have fr:∀ (v:Value) (xs:List Int) (base:Nat),Kd.R (Kd.int .i64) 3 M4 base (fun _=>True) v xs→Kd.R (Kd.int .i64) 3 (((M4.setCell ⟨gbn,0,none⟩ (.bool K1)).setCell ⟨gbn,1,none⟩ (.slice E1 K2.length f1)).setCell ⟨gbn,2,none⟩ (.slice E2 K3.length f2)) base (fun _=>True) v xs:=fun v xs base hv=>Kd.ah (Kd.bF (p:=⟨gbn,2,none⟩) (Kd.bF (p:=⟨gbn,1,none⟩) (Kd.bF (p:=⟨gbn,0,none⟩) (Kd.aA hv BKn_w22.out (by decide)) (fun _ hk=>hk.2) (.bool K1)) (fun _ hk=>hk.2) (.slice E1 K2.length f1)) (fun _ hk=>hk.2) (.slice E2 K3.length f2)) (fun _ _=>trivial)
        have HZ1:=aM (fr _ _ _ M5.out);have HZ2:=aM (fr _ _ _ M6.out);have BKz:=aM (au (au (au BKn_w22.out 0 (.bool K1) rfl) 1 (.slice E1 K2.length f1) rfl) 2 (.slice E2 K3.length f2) rfl);refine hK.out _ _ (HS2.out _ HBz.out) (fun hHeld=>?_)
        clear hK K;refine pV 12 9 (bA 13 8191) ?_;refine gZ (by kernel_rfl) ?_
        go_wp2
        go_meet
        case rel=>exact⟨gbn,E1,E2,f1,f2,rfl,rfl,BKz,HZ1,HZ2,Gn,HBz⟩
       ·refine jd ?hg (N:=11) ?hd (cs:=#[.bool false,.slice none 0 0,.slice none 0 0]) (t:=33) ?hr ?_;(case hd=>rfl);(case hg=>rfl);(case hr=>first|(go_simp;done)|(go_simp;rfl))
        intro gbn hg M7 hbox hb;have Gn:=aM (show H9.heap.size≤gbn by rw[hg];exact HB_w33.out.size)
        clear hg;have HB_w23:=aM (aX HB_w33.out HB_w33.out.size hb);have BKn_w23:=aM hbox;clear hbox hb;refine hK.out _ _ (HS2.out _ HB_w23.out) (fun hHeld=>?_)
        clear hK K;refine nm 11 ?_;refine iK (i:=6) (N:=some 56) (bA 13 1151) rfl rfl (by kernel_rfl) (by decide) (fun K hK=>?_)
        have HE_w23:=aM (aX K0.out K0.out.size HB_w23.out);refine eH Try.func53 (by kernel_rfl) rfl #[.agg #[.bool (ag l j).f0,.slice b4 (ag l j).f1.length b5,.slice b6 (ag l j).f2.length c2],.agg #[.bool j3,.slice X1 j4.length g1,.slice X2 j5.length g2]] (by rfl) rfl rfl mA ?_
        refine(Gzq.calls k _ (fun k_=>k_ < w.heap.size) b4 b5 _ (fun k_=>k_ < w.heap.size) b6 c2 _ j3 (fun k_=>k_ < H9.heap.size) X1 g1 j4 (fun k_=>k_ < H9.heap.size) X2 g2 j5 K1 K2 K3 K4 _ (Kd.jI HE.out.1 (Kd.eX (Kd.C_F (Kd.dZ .i64) HE.out.2.1) HE_w23.out)) (Kd.jI HE.out.2.2.1 (Kd.eX (Kd.C_F (Kd.dZ .i64) HE.out.2.2.2) HE_w23.out)) (Kd.jI HXC.out.1 (Kd.eX (Kd.C_F (Kd.dZ .i64) HXC.out.2.1) HB_w23.out)) (Kd.jI HXC.out.2.2.1 (Kd.eX (Kd.C_F (Kd.dZ .i64) HXC.out.2.2.2) HB_w23.out)) TS.out).mono ?_
        rintro e M8 ⟨m6,m7,rfl,m8,m9,hb⟩;refine⟨_,rfl,?_⟩;obtain⟨E1,f1,B5⟩:=Kd.aj m8;subst B5;obtain⟨E2,f2,B9⟩:=Kd.aj m9;subst B9;have HB_w24:=aM (aX HB_w23.out HB_w23.out.size hb);have BKn_w24:=aM (aD BKn_w23.out hb);have M9:=aM (Kd.ah (ok':=fun _=>True) (Kd.dO m8 HB_w23.out.size) (fun _ _=>trivial))
        have N0:=aM (Kd.ah (ok':=fun _=>True) (Kd.dO m9 HB_w23.out.size) (fun _ _=>trivial))
        clear m8 m9 hb;refine hK.out _ _ (HS2.out _ HB_w24.out) (fun hHeld=>?_)
        clear hK K;refine nm 56 ?_;refine pV 7 49 (bA 13 1279) ?_;refine pV 8 57 (bA 13 1535) ?_;refine pV 9 58 (bA 13 2047) ?_;refine iK (i:=11) (N:=none) (bA 13 4095) rfl rfl (by kernel_rfl) (by decide) (fun K hK=>?_)
        obtain⟨t8,C0,C1,t9,C2,C3⟩:=bk3 BKn_w24;refine iY (w1:=?_) (by rfl) rfl ?_ ?_
        rotate_left
        ·go_simp
         rfl
        have HBz:=aM (((HB_w24.out.setCell (p:=⟨gbn,0,none⟩) Gn.out (.bool K1)).setCell (p:=⟨gbn,1,none⟩) Gn.out (.slice E1 K2.length f1)).setCell (p:=⟨gbn,2,none⟩) Gn.out (.slice E2 K3.length f2));have fr:∀ (v:Value) (xs:List Int) (base:Nat),Kd.R (Kd.int .i64) 3 M8 base (fun _=>True) v xs→Kd.R (Kd.int .i64) 3 (((M8.setCell ⟨gbn,0,none⟩ (.bool K1)).setCell ⟨gbn,1,none⟩ (.slice E1 K2.length f1)).setCell ⟨gbn,2,none⟩ (.slice E2 K3.length f2)) base (fun _=>True) v xs:=fun v xs base hv=>Kd.ah (Kd.bF (p:=⟨gbn,2,none⟩) (Kd.bF (p:=⟨gbn,1,none⟩) (Kd.bF (p:=⟨gbn,0,none⟩) (Kd.aA hv BKn_w24.out (by decide)) (fun _ hk=>hk.2) (.bool K1)) (fun _ hk=>hk.2) (.slice E1 K2.length f1)) (fun _ hk=>hk.2) (.slice E2 K3.length f2)) (fun _ _=>trivial)
        have HZ1:=aM (fr _ _ _ M9.out);have HZ2:=aM (fr _ _ _ N0.out);have BKz:=aM (au (au (au BKn_w24.out 0 (.bool K1) rfl) 1 (.slice E1 K2.length f1) rfl) 2 (.slice E2 K3.length f2) rfl);refine hK.out _ _ (HS2.out _ HBz.out) (fun hHeld=>?_)
        clear hK K;refine pV 12 9 (bA 13 8191) ?_;refine gZ (by kernel_rfl) ?_
        go_wp2
        go_meet
        case rel=>exact⟨gbn,E1,E2,f1,f2,rfl,rfl,BKz,HZ1,HZ2,Gn,HBz⟩
      case rest =>
       obtain⟨K7,E1,E2,f1,f2,rfl,rfl,N1,N2,N3,G11,HBc⟩:=hcut;have HWc:=aM (aX K0.out K0.out.size HBc.out);have BLc:=aM ((HLO.out _ HWc.out gl HG.out.2.2.2.1).trans HLB.out);obtain⟨t8,C0,C1,t9,C2,C3⟩:=bk3 N1;obtain⟨hdz_0,hgz_0⟩:=bk1 BLc;obtain⟨ys,hys⟩:∃ y_:List S33,y_=ls ++ [(⟨K1,K2,K3⟩:S33)]:=⟨_,rfl⟩;have YS:=aM hys;clear hys;have OKA:=aM (show ∀ k,(okl k∨H9.heap.size≤k)→B1≤k∧k≠d8 from fun k hk=>hk.elim (fun h=>⟨(HOK.out k h).1,fun he=>absurd (HOK.out k h).2 (by rw[he];exact Nat.not_lt.2 G6.out)⟩) (fun h=>⟨Nat.le_trans HG.out.2.1 (Nat.le_trans K0.out.size h),fun he=>absurd (aV J9.out) (by rw[← he];exact Nat.not_lt.2 h)⟩))
       have HU:=aM (show ∀ k,u.ownBlock=some k→okl k∧k < w.heap.size from fun k hk=>⟨HN.out.1 k hk,Kd.kr HN.out k hk⟩)
       go_upto_region 12 with (first|((with_reducible refine dw (b:=.append) (xs:=#[.tmp 59,.tmp 61]) rfl ?_);at_builtin;refine Kd.tC k33 (w0:=w0) w0.heap.size rfl (.tmp 59) (.tmp 61) 22 33 (.agg #[(.bool false),(.slice none 0 0),(.slice none 0 0)]) 56 rfl Try.underlying22 pq rfl (by decide) (by omega) u ls (⟨K1,K2,K3⟩:S33) [.bool K1,.slice E1 K2.length f1,.slice E2 K3.length f2] (fun k=>okl k∨H9.heap.size≤k) (fun k=>(okl k∨H9.heap.size≤k)∧some k≠u.ownBlock) rfl rfl ?aP (fun _ hk=>hk) ?aF ?aO ?aB ?aS ?aL ?_;(case aP=>exact oW N2.out N3.out (fun k hk _=>⟨.inr hk,fun he=>absurd (HU.out k he.symm).2 (Nat.not_lt.2 (Nat.le_trans K0.out.size hk))⟩));(case aF=>exact fun k hk=>.inr (Nat.le_trans HBc.out.size hk));(case aO=>exact Kd.aG (Kd.dQ HN.out HWc.out) (fun k hk=>.inl hk));(case aB=>exact aX a9.out a9.out.size HWc.out);(case aS=>exact Nat.le_trans a9.out.size HWc.out.size);(case aL=>exact HLN.out);intro r6 N4 ho hb hg hat;rw[← YS.out] at ho;have t4:=aM ho;have t5:=aM hb;have r8:=aM (show ∀ k,k < wc.heap.size→¬ (okl k∧k < w.heap.size)→N4.heap[k]?=wc.heap[k]? from fun k hk hn=>hg.block k hk (fun he=>hn (HU.out k he.symm)));have HS4:=aM (show wc.heap.size≤N4.heap.size from hg.size);clear ho hb hg hat t8 C0 C1 t9 C2 C3 hdz_0 hgz_0;obtain⟨t6,t7,rfl⟩:=Kd.ek t4.out;have hng:=(show ¬ (okl gl∧gl < w.heap.size) from fun h=>absurd (HOK.out gl h.1).1 (Nat.not_le.2 HG.out.2.2.2.1));have BL4:=aM ((r8.out gl (aV BLc.out) hng).trans BLc.out);clear hng;obtain⟨hdz_0,hgz_0⟩:=bk1 BL4))
       have hgw:gl < w.heap.size:=Nat.lt_of_lt_of_le HG.out.2.2.2.1 HG.out.2.1;have N5:¬ (okl d8∧d8 < w.heap.size):=fun h=>absurd h.2 (Nat.not_lt.2 G6.out)
       have N6:¬ (okl J4∧J4 < w.heap.size):=fun h=>absurd h.2 (Nat.not_lt.2 G10.out)
       have BL5:=aM (au BL4.out 0 (.slice t6 ys.length t7) rfl);have z3:=aM (Kd.bJ (p:=⟨gl,0,none⟩) t4.out (fun k hk he=>absurd (OKA.out k hk).1 (by rw[he];exact Nat.not_le.2 HG.out.2.2.2.1)) (.slice t6 ys.length t7))
       have z5:=aM (t5.out.setCell (p:=⟨gl,0,none⟩) HGL.out (.slice t6 ys.length t7));have z6:=aM (show ∀ k,k < wc.heap.size→k≠gl→¬ (okl k∧k < w.heap.size)→(N4.setCell ⟨gl,0,none⟩ (.slice t6 ys.length t7)).heap[k]?=wc.heap[k]? from fun k hk hne hn=>(Below.heap_setCell N4 ⟨gl,0,none⟩ (.slice t6 ys.length t7) k hne).trans (r8.out k hk hn))
       have HS5:=aM (show wc.heap.size≤(N4.setCell ⟨gl,0,none⟩ (.slice t6 ys.length t7)).heap.size by simpa using HS4.out)
       clear t5 t4 r8 HS4 BL4 hdz_0 hgz_0;generalize N4.setCell ⟨gl,0,none⟩ (.slice t6 ys.length t7)=z7 at BL5 z3 z5 z6 HS5 ⊢;have I8:=aM (aD J9.out HBc.out);have N7:=aM (aD J8.out HBc.out);have N8:=aM ((z6.out d8 (aV I8.out) (fun he=>absurd G6.out (by rw[he];exact Nat.not_le.2 hgw)) N5).trans I8.out)
       have N9:=aM ((z6.out J4 (aV N7.out) (fun he=>absurd G10.out (by rw[he];exact Nat.not_le.2 hgw)) N6).trans N7.out)
       have XF5:=aM (Kd.kD (W1:=z7) XF.out (fun k hk hlt=>(z6.out k (Nat.lt_of_lt_of_le hlt HBc.out.size) (fun he=>absurd (XO.out k hk).1 (by rw[he];exact Nat.not_le.2 hgw)) (fun h=>absurd h.2 (Nat.not_lt.2 (XO.out k hk).1))).trans (HBc.out.block k hlt)))
       obtain⟨t8,C0,C1,t9,C2,C3⟩:=bk3 N8;obtain⟨hdz_0,hdz_1,hdz_2,hgz_0,hgz_1,hgz_2⟩:=bk3 N9;go_wp2
       refine rC d8 33 #[.bool j3,.slice X1 j4.length g1,.slice X2 j5.length g2] (au (au (au N8.out 0 (.bool j3) rfl) 1 (.slice X1 j4.length g1) rfl) 2 (.slice X2 j5.length g2) rfl) Try.underlying33 ?_
       have far3:∀ k,k≠d8→(((z7.setCell ⟨d8,0,none⟩ (.bool j3)).setCell ⟨d8,1,none⟩ (.slice X1 j4.length g1)).setCell ⟨d8,2,none⟩ (.slice X2 j5.length g2)).heap[k]?=z7.heap[k]?:=fun k hk=>(Below.heap_setCell _ ⟨d8,2,none⟩ _ k hk).trans ((Below.heap_setCell _ ⟨d8,1,none⟩ _ k hk).trans (Below.heap_setCell _ ⟨d8,0,none⟩ _ k hk))
       have hsz:(((z7.setCell ⟨d8,0,none⟩ (.bool j3)).setCell ⟨d8,1,none⟩ (.slice X1 j4.length g1)).setCell ⟨d8,2,none⟩ (.slice X2 j5.length g2)).heap.size=z7.heap.size:=by simp
       have C4:∀ k,k < w.heap.size→k≠d8:=fun k hk he=>absurd G6.out (by rw[← he];exact Nat.not_le.2 hk)
       have C6:=Nat.le_trans a9.out.size G6.out;have sz:w.heap.size≤z7.heap.size:=Nat.le_trans HWc.out.size HS5.out;refine⟨⟨_,_,.slice t6 ys.length t7,fun k=>(okl k∨H9.heap.size≤k)∧k < z7.heap.size,rfl,?_,?_,?_,?_,?_,?_,?_⟩⟩
       ·exact(((z5.out.setCell (p:=⟨d8,0,none⟩) C6 _).setCell (p:=⟨d8,1,none⟩) C6 _).setCell (p:=⟨d8,2,none⟩) C6 _)
       ·rw[hsz];exact sz
       ·exact fun k hk hne hn=>(far3 k (C4 k hk)).trans ((z6.out k (Nat.lt_of_lt_of_le hk HWc.out.size) hne (fun h=>hn h.1)).trans (HWc.out.block k hk))
       ·exact fun k hk=>hk.1.elim .inl (fun h=>.inr (Nat.le_trans K0.out.size h))
       ·exact fun k hk=>by rw[hsz];exact hk.2
       ·exact Kd.jw (Kd.kD XF5.out (fun k hk _=>far3 k (XO.out k hk).2.2)) (fun k hk=>⟨(XO.out k hk).1,fun h=>h.1.elim (fun h=>absurd (HOK.out k h).2 (Nat.not_lt.2 (XO.out k hk).1)) (fun h=>absurd (XO.out k hk).2.1 (Nat.not_lt.2 h))⟩)
       ·intro _;refine⟨(far3 gl (C4 gl hgw)).trans BL5.out,?_⟩;rw[← YS.out];exact Kd.nV (Kd.iq z3.out) (fun k hk _=>far3 k (OKA.out k hk.1).2)
     ·have h:=H.out;simp only[if_neg hr] at h;injection h with h
      injection h with j9 h
      injection h with l5 l6
      injection l5 with l7 l8 l9
      subst j9 l6 l7 l8 l9;have O0:(I9 != 0)=true:=bne_iff_ne.mpr hr;obtain⟨t8,C0,C1,t9,C2,C3⟩:=bk3 J9;go_wp2
      refine rC d8 33 #[.bool false,.slice none 0 0,.slice none 0 0] (au (au (au J9.out 0 (.bool false) rfl) 1 (.slice none 0 0) rfl) 2 (.slice none 0 0) rfl) Try.underlying33 ?_
      exact ERR.out _ _ hr (((K0.out.setCell (p:=⟨d8,0,none⟩) G6.out _).setCell (p:=⟨d8,1,none⟩) G6.out _).setCell (p:=⟨d8,2,none⟩) G6.out _)
    ·have h:=H.out;simp only[if_neg hr] at h;injection h with h
     injection h with j9 h
     injection h with l5 l6
     injection l5 with l7 l8 l9
     subst j9 l6 l7 l8 l9;have O0:(D7 != 0)=true:=bne_iff_ne.mpr hr;obtain⟨t8,C0,C1,t9,C2,C3⟩:=bk3 I8;go_wp2
     refine rC d8 33 #[.bool false,.slice none 0 0,.slice none 0 0] (au (au (au I8.out 0 (.bool false) rfl) 1 (.slice none 0 0) rfl) 2 (.slice none 0 0) rfl) Try.underlying33 ?_
     exact ERR.out _ _ hr (((HBc.out.setCell (p:=⟨d8,0,none⟩) G6.out _).setCell (p:=⟨d8,1,none⟩) G6.out _).setCell (p:=⟨d8,2,none⟩) G6.out _)
 ·rw[if_neg hln] at h;cases h
theorem wY {w:World} {base base':Nat} {a6 a7:Option Addr} {a8 c2 g:Nat} {p q:List Int} {okp okq:Nat→Prop} {cs:Array Value} (a9:Kd.R (Kd.int .i64) 3 w base okp (.slice a6 p.length a8) p) (b4:Kd.R (Kd.int .i64) 3 w base' okq (.slice a7 q.length c2) q) (hg:w.heap[g]?=some (.cells cs 22 (0,0))) :
  ∀ W:World,(∀ k,k < w.heap.size→k≠g→W.heap[k]?=w.heap[k]?)→cI W a6 p∧cI W a7 q:=fun W hW =>
 ⟨Kd.yo (Kd.nR (Kd.V_F (base:=base) (Kd.R_V (Kd.dJ rfl a9))) (fun k hk hlt=>hW k hlt (fun he=>Kd.xQ a9 hg (by decide) (he ▸ hk)))),Kd.yo (Kd.nR (Kd.V_F (base:=base) (Kd.R_V (Kd.dJ rfl b4))) (fun k hk hlt=>hW k hlt (fun he=>Kd.xQ b4 hg (by decide) (he ▸ hk))))⟩
theorem wZ (k:Nat) (cp mass:Int) (gm gl gt gv:Nat) (A:Option Addr) (c:Nat) (l:List S33) (lb:Bool) (l1 l2:List Int) (L1:Option Addr) (cL1:Nat) (L2:Option Addr) (cL2:Nat) (ls ys:List S33) (r:Int) (a6 w:World) (hB:Below a6.heap.size a6 w)
  (hm:w.heap[gm]?=some (.cells #[.int .i64 mass] 3 (0,0))) (hl:w.heap[gl]?=some (.cells #[.slice none 0 0] 22 (0,0))) (ht:w.heap[gt]?=some (.cells #[.int .i64 cp,.slice A l.length c] 24 (0,0))) (hv:w.heap[gv]?=some (.cells #[.bool lb,.slice L1 l1.length cL1,.slice L2 l2.length cL2] 33 (0,0)))
  (hgl0:a6.heap.size≤gl) (hne:gm≠gl∧gt≠gl∧gv≠gl) (hC:Kd.C k33 a6 A l.length l) (a7:l1.length≤cL1) (a8:l2.length≤cL2)
  (hL:∀ W:World,(∀ k,k < w.heap.size→k≠gl→W.heap[k]?=w.heap[k]?)→cI W L1 l1∧cI W L2 l2) (hn:l.length≤1000)
  (h:iI (fun j s=>jo k mass lb l1 l2 l (j:Int) s) l.length 0 [] []=some (ls,ys,r)) :
  Calls Try.prog 48 #[.agg #[.int .i64 cp,.slice A l.length c],.func (.func 49) #[] #[.pointer (some ⟨gm,0,none⟩),.pointer (some ⟨gl,0,none⟩),.pointer (some ⟨gt,0,none⟩),.pointer (some ⟨gv,0,none⟩)]] w fun e w'=>∃ (v:Value),e=.returned (.tuple #[v,.int .i64 r])∧Below a6.heap.size a6 w'∧(w.heap.size≤w'.heap.size∧∀ k,k < w.heap.size→k≠gl→w'.heap[k]?=w.heap[k]?)∧(r≠0→v=.slice none 0 0)∧(r=0→∃ (u:Value) (okl:Nat→Prop),w'.heap[gl]?=some (.cells #[u] 22 (0,0))∧Kd.N k33 33 w' a6.heap.size okl u ls∧(∀ k,okl k→w.heap.size≤k)∧Kd.N k33 33 w' a6.heap.size (fun k=>a6.heap.size≤k∧¬ (k < w.heap.size∨okl k)) v ys):=by
 refine(Hzb.calls (fun j s=>jo k mass lb l1 l2 l (j:Int) s) cp A l.length c 49 #[.pointer (some ⟨gm,0,none⟩),.pointer (some ⟨gl,0,none⟩),.pointer (some ⟨gt,0,none⟩),.pointer (some ⟨gv,0,none⟩)] a6 w (fun W=>w.heap.size≤W.heap.size∧∀ k,k < w.heap.size→k≠gl→W.heap[k]?=w.heap[k]?)
  (fun _ s W ok=>∃ (u:Value) (okl:Nat→Prop),(w.heap.size≤W.heap.size∧∀ k,k < w.heap.size→k≠gl→W.heap[k]?=w.heap[k]?)∧W.heap[gl]?=some (.cells #[u] 22 (0,0))∧Kd.N k33 33 W a6.heap.size okl u s∧(∀ k,okl k→w.heap.size≤k∧k < W.heap.size)∧ok=fun k=>k < w.heap.size∨okl k) [] ls ys r _ ⟨⟨_,Try.func49,by kernel_rfl,rfl⟩,?_,?_,?_,?_⟩ ⟨.slice none 0 0,fun _=>False,⟨Nat.le_refl _,fun _ _ _=>rfl⟩,hl,Kd.fU _ _ _ _ _,fun _ h=>h.elim,rfl⟩ hB hn h).mono ?_
 ·rintro j s W ok s' b p q e hj ⟨u,okl,⟨hsz,hK⟩,hu,hN,hok,rfl⟩ hb hg;obtain⟨hL1,hL2⟩:=hL W hK;refine(Hzf.calls k cp mass gm gl gt gv A c l lb l1 l2 L1 cL1 L2 cL2 (j:Int) u s okl w.heap.size s' b p q e a6 W hb ((hK gm (aV hm) hne.1).trans hm) hu ((hK gt (aV ht) hne.2.1).trans ht) ((hK gv (aV hv) hne.2.2).trans hv) hgl0 ⟨hB.size,hsz,aV hm,aV hl,aV ht,aV hv⟩ hC a7 hL1 a8 hL2 hN hok (by omega) (by omega) hg).mono ?_
  rintro e' W' ⟨a9,b4,u',okl',rfl,hb',hsz',hk',b5,b6,hF,hz⟩;have hK':∀ k,k < w.heap.size→k≠gl→W'.heap[k]?=w.heap[k]?:=fun k hk hn=>(hk' k (Nat.lt_of_lt_of_le hk hsz) hn (fun ho=>absurd (hok k ho).1 (Nat.not_le.2 hk))).trans (hK k hk hn)
  refine⟨a9,b4,rfl,hb',⟨Nat.le_trans hsz hsz',hK'⟩,fun k=>k < w.heap.size∨okl' k,fun hr=>⟨u',okl',⟨Nat.le_trans hsz hsz',hK'⟩,(hz hr).1,(hz hr).2,fun k hk=>⟨(b5 k hk).elim (fun h=>(hok k h).1) (fun h=>Nat.le_trans hsz h),b6 k hk⟩,rfl⟩,?_,?_,?_,?_⟩
  ·exact fun k hk=>hk.elim (fun h=>.inl (.inl h)) (fun h=>(b5 k h).elim (fun h=>.inl (.inr h)) .inr)
  ·exact fun k hk=>hk.elim (fun h=>Nat.lt_of_lt_of_le h (Nat.le_trans hsz hsz')) (b6 k)
  ·exact Kd.jw hF (fun k hk=>⟨hk.1,fun h=>h.elim (fun h=>absurd h (Nat.not_lt.2 (Nat.le_trans hsz hk.1))) hk.2⟩)
  ·exact⟨hsz',fun k hk hn=>hk' k hk (fun he=>hn (.inl (by rw[he];exact aV hl))) (fun ho=>hn (.inr ho))⟩
 ·rintro j s W ok ⟨u,okl,⟨hsz,hK⟩,hu,hN,hok,rfl⟩ k hk;exact hk.elim (fun h=>Nat.lt_of_lt_of_le h hsz) (fun h=>(hok k h).2)
 ·rintro j s W W' ok ⟨u,okl,⟨hsz,hK⟩,hu,hN,hok,rfl⟩ b7 hk;exact⟨u,okl,⟨Nat.le_trans hsz b7.size,fun k b8 b9=>(hk k (.inl b8)).trans (hK k b8 b9)⟩,(hk gl (.inl (aV hl))).trans hu,Kd.nV hN (fun k b8 _=>hk k (.inr b8)),fun k b8=>⟨(hok k b8).1,Nat.lt_of_lt_of_le (hok k b8).2 b7.size⟩,rfl⟩
 ·rintro W W' ⟨hsz,hK⟩ hb;exact⟨Nat.le_trans hsz hb.size,fun k b8 b9=>(hb.block k (Nat.lt_of_lt_of_le b8 hsz)).trans (hK k b8 b9)⟩
 ·rintro e w' ⟨v,rfl,hb,b8,b9⟩;by_cases hr:r=0
  ·obtain⟨ok,⟨u,okl,hJ,hu,hN,hok,rfl⟩,hy⟩:=b9 hr;exact⟨v,rfl,hb,hJ,fun h=>absurd hr h,fun _=>⟨u,okl,hu,hN,fun k hk=>(hok k hk).1,hy⟩⟩
  ·exact⟨v,rfl,hb,(b8 hr).2,fun _=>(b8 hr).1,fun h=>absurd h hr⟩
def Fzb.f (k:Nat) (cp:Int) (l:List S33) (mass:Int):Option (Int × List S33 × List S33 × Int):=(Fzk.f k cp l).bind fun lv=>if lv.2.2.2=0 then(if mass < 0 then some (0,[],[],1) else(if mass > 1099511627776 then some (0,[],[],1) else(Hzz.f k lv.1 lv.2.1 lv.2.2.1).bind fun fl=>if fl.2=0 then(if mass > fl.1 then some (0,[],[],19) else(if l.length≤1000 then(iI (fun j s=>jo k mass lv.1 lv.2.1 lv.2.2.1 l (j:Int) s) l.length 0 [] []).bind fun x=>(if x.2.2=0 then some (cp,x.1,x.2.1,0) else some (0,[],[],x.2.2)) else none)) else some (0,[],[],fl.2))) else some (0,[],[],lv.2.2.2)
theorem Fzb.calls (k:Nat) (cp:Int) (A:Option Addr) (c:Nat) (l:List S33) (mass:Int) (a6:Int) (a7 a8:List S33) (a9:Int) (w:World) (hC:Kd.C k33 w A l.length l) (hc:l.length≤c) (h:Fzb.f k cp l mass=some (a6,a7,a8,a9)) :
  Calls Try.prog 22 #[.agg #[.int .i64 cp,.slice A l.length c],.int .i64 mass] w fun e w'=>∃ v1_ v2_:Value,e=.returned (.tuple #[.agg #[.int .i64 a6,v1_],v2_,.int .i64 a9])∧Kd.N k33 33 w' w.heap.size (fun k_=>(w.heap.size≤k_)∧oV v2_ k_) v1_ a7∧Kd.N k33 33 w' w.heap.size (fun k_=>(w.heap.size≤k_)∧oV v1_ k_) v2_ a8∧bw w w':=by
 have hmf_:∀ (fn:Fn) (first cap:Array Value) (w:World),(Instr.makeFunc fn first cap).run Try.prog w=.ok (.func fn first cap) w:=fun _ _ _ _=>rfl
 unfold Fzb.f at h;rw[Option.bind_eq_some_iff] at h;obtain⟨⟨lb,l1,l2,b4⟩,hlv,h⟩:=h;have HC:=aM hC;have HL:=aM hc;have LV:=aM hlv;have H:=aM h;have HB:=aM (Below.refl w.heap.size w);clear hC hc hlv h;go_enter Try.func22,Try.ntmps22
 go_upto_region 2 with (first|((with_reducible refine gd 2 rfl ?_);refine bx #[.int .i64 cp,.slice A l.length c] 24 ?_;intro b5 hg b6 b7 hb;have G2:=gA w hg;replace HB:=bB hb;clear hb hg)|((with_reducible refine gd 3 rfl ?_);refine bx #[.int .i64 mass] 3 ?_;intro b8 hg b9 d6 hb;have G3:=gA w hg;replace b7:=kb b7 hb;replace HB:=bB hb;clear hb hg)|((with_reducible refine gd 4 rfl ?_);refine bx #[.int .i64 0,.slice none 0 0] 24 ?_;intro d7 hg d8 d9 hb;have G4:=gA w hg;have N2_4:=nl hg b7;have N4_2:=ng hg b7;have N3_4:=nl hg d6;have N4_3:=ng hg d6;replace b7:=kb b7 hb;replace d6:=kb d6 hb;replace HB:=bB hb;clear hb hg;obtain⟨e6,e7,f6,f7⟩:=bk2 b7)|((with_reducible refine df (f:=14) rfl ?_);refine gJ (some 14) rfl rfl Try.func14 (by kernel_rfl) rfl #[.agg #[.int .i64 cp,.slice A l.length c]] rfl (by first|exact mA|(simp [Act.eval];done)) ?_;refine(Fzk.calls k cp A c l lb l1 l2 b4 _ (Kd.aT HC.out HB.out) HL.out LV.out).mono ?_;rintro e f8 ⟨g5,g8,rfl,g9,j3,hb⟩;refine⟨_,rfl,?_⟩;replace b7:=kb b7 hb;replace d6:=kb d6 hb;replace d9:=kb d9 hb;have HV1:=aM (Kd.ah (ok':=fun _=>True) (Kd.dO g9 HB.out.size) (fun _ _=>trivial));have HV2:=aM (Kd.ah (ok':=fun _=>True) (Kd.dO j3 HB.out.size) (fun _ _=>trivial));replace HB:=bB hb;clear hb g9 j3 e6 e7 f6 f7 LV;obtain⟨L1,j4,j5⟩:=Kd.aj HV1.out;subst j5;obtain⟨L2,c2,j6⟩:=Kd.aj HV2.out;subst j6)|((with_reducible refine gd 7 rfl ?_);refine bz 33 ?_;intro j7 hg j8 j9 hb;have G7:=gA w hg;have N37:=nl hg d6;have N27:=nl hg b7;have N47:=nl hg d9;replace b7:=kb b7 hb;replace d6:=kb d6 hb;replace d9:=kb d9 hb;replace HV1:=aM (Kd.fM HV1.out hb);replace HV2:=aM (Kd.fM HV2.out hb);replace HB:=bB hb;clear hb hg;obtain⟨hdz0,hdz1,hdz2,hgz0,hgz1,hgz2⟩:=bk3 j9))
 have fr:∀ (v:Value) (xs:List Int),rI j8 w (fun _=>True) v xs→Kd.R (Kd.int .i64) 3 (((j8.setCell ⟨j7,0,none⟩ (.bool lb)).setCell ⟨j7,1,none⟩ (.slice L1 l1.length j4)).setCell ⟨j7,2,none⟩ (.slice L2 l2.length c2)) w.heap.size (fun _=>True) v xs:=fun v xs hv=>Kd.ah (Kd.bF (p:=⟨j7,2,none⟩) (Kd.bF (p:=⟨j7,1,none⟩) (Kd.bF (p:=⟨j7,0,none⟩) (Kd.aA hv j9.out (by decide)) (fun _ hk=>hk.2) _) (fun _ hk=>hk.2) _) (fun _ hk=>hk.2) _) (fun _ _=>trivial)
 have l5:=aM (fr _ _ HV1.out);have l6:=aM (fr _ _ HV2.out);have fb:∀ (g:Nat) (o:Obj),g≠j7→j8.heap[g]?=some o→(((j8.setCell ⟨j7,0,none⟩ (.bool lb)).setCell ⟨j7,1,none⟩ (.slice L1 l1.length j4)).setCell ⟨j7,2,none⟩ (.slice L2 l2.length c2)).heap[g]?=some o:=fun g o hg ho=>(Below.heap_setCell _ ⟨j7,2,none⟩ _ g hg).trans ((Below.heap_setCell _ ⟨j7,1,none⟩ _ g hg).trans ((Below.heap_setCell _ ⟨j7,0,none⟩ _ g hg).trans ho))
 have BL2:=aM (fb _ _ N27.out b7.out);have BL3:=aM (fb _ _ N37.out d6.out);have BL4:=aM (fb _ _ N47.out d9.out);have BL7:=aM (au (au (au j9.out 0 (.bool lb) rfl) 1 (.slice L1 l1.length j4) rfl) 2 (.slice L2 l2.length c2) rfl);have l7:=aM (((HB.out.setCell (p:=⟨j7,0,none⟩) G7.out (.bool lb)).setCell (p:=⟨j7,1,none⟩) G7.out (.slice L1 l1.length j4)).setCell (p:=⟨j7,2,none⟩) G7.out (.slice L2 l2.length c2));clear fr fb HV1 HV2 b7 d6 d9 j9 HB hdz0 hdz1 hdz2 hgz0 hgz1 hgz2;generalize (((j8.setCell { block:=j7,off:=0 } (Value.bool lb)).setCell { block:=j7,off:=1 } (Value.slice L1 l1.length j4)).setCell { block:=j7,off:=2 } (Value.slice L2 l2.length c2))=l8 at l5 l6 BL2 BL3 BL4 BL7 l7 ⊢;by_cases hr:b4=0
 ·subst hr;have h:=H.out;simp only[if_true] at h;obtain⟨l9,m0⟩:=bk1 BL3;by_cases m4:mass < 0
  ·simp only[if_pos m4] at h;have d0:decide (mass < 0)=true:=dE m4;injection h with h
   injection h with m5 h
   injection h with m6 h
   injection h with m7 m8
   subst m5 m6 m7 m8;obtain⟨hez_0,hez_1,m9,n0⟩:=bk2 BL4;go_wp2
   refine bodyPost_ret (iA rfl _ _ d7 24 #[.int .i64 0,.slice none 0 0] (0,0) _ rfl (au (au BL4.out 0 (.int .i64 0) rfl) 1 (.slice none 0 0) rfl) Try.underlying24 rfl (by kernel_rfl)) rfl ?_
   exact⟨_,_,rfl,Kd.fU _ _ _ _ _,Kd.fU _ _ _ _ _,(l7.out.setCell (p:=⟨d7,0,none⟩) G4.out _).setCell (p:=⟨d7,1,none⟩) G4.out _⟩
  ·simp only[if_neg m4] at h;have d0:decide (mass < 0)=false:=decide_eq_false m4;by_cases n7:mass > 1099511627776
   ·simp only[if_pos n7] at h;have d1:decide (mass > 1099511627776)=true:=dE n7;have d1':decide (1099511627776 < mass)=true:=d1;injection h with h
    injection h with m5 h
    injection h with m6 h
    injection h with m7 m8
    subst m5 m6 m7 m8;obtain⟨hez_0,hez_1,m9,n0⟩:=bk2 BL4;go_wp2
    refine bodyPost_ret (iA rfl _ _ d7 24 #[.int .i64 0,.slice none 0 0] (0,0) _ rfl (au (au BL4.out 0 (.int .i64 0) rfl) 1 (.slice none 0 0) rfl) Try.underlying24 rfl (by kernel_rfl)) rfl ?_
    exact⟨_,_,rfl,Kd.fU _ _ _ _ _,Kd.fU _ _ _ _ _,(l7.out.setCell (p:=⟨d7,0,none⟩) G4.out _).setCell (p:=⟨d7,1,none⟩) G4.out _⟩
   ·simp only[if_neg n7] at h;have d1:decide (mass > 1099511627776)=false:=decide_eq_false n7;have d1':decide (1099511627776 < mass)=false:=d1;rw[Option.bind_eq_some_iff] at h;obtain⟨⟨fl,n8⟩,hfl,h⟩:=h;have FL:=aM hfl;replace H:=aM h;clear hfl h;have D0:=aM m4;have D1:=aM n7;clear m4 n7;go_upto_region 6 with (fail)
    clear d0 d1 d1' l9 m0;obtain⟨hdz0,hdz1,hdz2,hgz0,hgz1,hgz2⟩:=bk3 BL7;go_upto_region 7 with (first|((with_reducible refine df (f:=47) rfl ?_);refine gJ (some 30) rfl rfl Try.func47 (by kernel_rfl) rfl #[.agg #[.bool lb,.slice L1 l1.length j4,.slice L2 l2.length c2]] rfl (by first|exact mA|(simp [Act.eval];done)) ?_;refine(Hzz.calls k lb L1 j4 l1 L2 c2 l2 fl n8 l8 (Kd.ax l5.out).2.2 (Kd.ax l5.out).2.1 (Kd.ax l6.out).2.2 (Kd.ax l6.out).2.1 FL.out).mono ?_;rintro e n9 ⟨rfl,hb⟩;refine⟨_,rfl,?_⟩;replace BL2:=aM (aD BL2.out hb);replace BL3:=aM (aD BL3.out hb);replace BL4:=aM (aD BL4.out hb);replace BL7:=aM (aD BL7.out hb);replace l5:=aM (Kd.fM l5.out hb);replace l6:=aM (Kd.fM l6.out hb);replace l7:=aM (aX l7.out l7.out.size hb);clear hb FL))
    clear hdz0 hdz1 hdz2 hgz0 hgz1 hgz2;by_cases hr:n8=0
    ·subst hr;have h:=H.out;simp only[if_true] at h;obtain⟨l9,m0⟩:=bk1 BL3;by_cases hmf:mass > fl
     ·simp only[if_pos hmf] at h;have d1:decide (mass > fl)=true:=dE hmf;have d1':decide (fl < mass)=true:=d1;injection h with h
      injection h with m5 h
      injection h with m6 h
      injection h with m7 m8
      subst m5 m6 m7 m8;obtain⟨hez_0,hez_1,m9,n0⟩:=bk2 BL4;go_wp2
      refine bodyPost_ret (iA rfl _ _ d7 24 #[.int .i64 0,.slice none 0 0] (0,0) _ rfl (au (au BL4.out 0 (.int .i64 0) rfl) 1 (.slice none 0 0) rfl) Try.underlying24 rfl (by kernel_rfl)) rfl ?_
      exact⟨_,_,rfl,Kd.fU _ _ _ _ _,Kd.fU _ _ _ _ _,(l7.out.setCell (p:=⟨d7,0,none⟩) G4.out _).setCell (p:=⟨d7,1,none⟩) G4.out _⟩
     ·simp only[if_neg hmf] at h;have d1:decide (mass > fl)=false:=decide_eq_false hmf;have d1':decide (fl < mass)=false:=d1;by_cases hln:l.length≤1000
      ·rw[if_pos hln,Option.bind_eq_some_iff] at h;obtain⟨⟨ls,ys,o0⟩,hea,h⟩:=h;have EA:=aM hea;have LN:=aM hln;replace H:=aM h;clear hea h hln hmf;obtain⟨e6,e7,f6,f7⟩:=bk2 BL2;go_upto_region 13 with (first|((with_reducible refine gd 10 rfl ?_);refine bx #[.slice none 0 0] 22 ?_;intro o8 hg o9 p9 hb;have G10:=aM (show w.heap.size≤o8 by rw[hg];exact l7.out.size);have N310:=aM (show b8≠o8 by rw[hg];exact Nat.ne_of_lt (aV BL3.out));have N210:=aM (show b5≠o8 by rw[hg];exact Nat.ne_of_lt (aV BL2.out));have N710:=aM (show j7≠o8 by rw[hg];exact Nat.ne_of_lt (aV BL7.out));have N410:=aM (show d7≠o8 by rw[hg];exact Nat.ne_of_lt (aV BL4.out));replace BL2:=aM (aD BL2.out hb);replace BL3:=aM (aD BL3.out hb);replace BL4:=aM (aD BL4.out hb);replace BL7:=aM (aD BL7.out hb);replace l5:=aM (Kd.fM l5.out hb);replace l6:=aM (Kd.fM l6.out hb);replace l7:=aM (aX l7.out l7.out.size hb);clear hb hg e6 e7 f6 f7;obtain⟨e6,e7,f6,f7⟩:=bk2 BL2)|((with_reducible refine df (f:=48) rfl ?_);refine gJ (some 44) rfl rfl Try.func48 (by kernel_rfl) rfl #[.agg #[.int .i64 cp,.slice A l.length c],.func (.func 49) #[] #[.pointer (some ⟨b8,0,none⟩),.pointer (some ⟨o8,0,none⟩),.pointer (some ⟨b5,0,none⟩),.pointer (some ⟨j7,0,none⟩)]] rfl (by first|exact mA|(simp [Act.eval];done)) ?_;have HLL:=aM (wY l5.out l6.out p9.out);refine(wZ k cp mass b8 o8 b5 j7 A c l lb l1 l2 L1 j4 L2 c2 ls ys o0 w o9 l7.out BL3.out p9.out BL2.out BL7.out G10.out ⟨N310.out,N210.out,N710.out⟩ HC.out (Kd.ax l5.out).2.1 (Kd.ax l6.out).2.1 HLL.out LN.out EA.out).mono ?_;rintro e r6 ⟨r7,rfl,hb,hk,hz1,hz2⟩;refine⟨_,rfl,?_⟩;have L4:=aM (show d7 < o9.heap.size from aV BL4.out);have HBA:=aM (show w.heap.size≤o9.heap.size from l7.out.size);have BM2:=aM ((hk.2 b5 (aV BL2.out) N210.out).trans BL2.out);have BM4:=aM ((hk.2 d7 (aV BL4.out) N410.out).trans BL4.out);have r8:=aM hb;have HZ2:=aM hz2;clear hb hk hz1 hz2 e6 e7 f6 f7 HLL BL2 BL3 BL7 l5 l6 BL4 p9))
       by_cases hr:o0=0
       ·subst hr;have h:=H.out;simp only[if_true] at h;injection h with h
        injection h with m5 h
        injection h with m6 h
        injection h with m7 m8
        subst m5 m6 m7 m8;obtain⟨u,okl,hu,hN,hok,hY⟩:=HZ2.out rfl;obtain⟨Au,cu,eu⟩:=Kd.ek hN;subst eu;obtain⟨Av,cv,ev⟩:=Kd.ek hY;subst ev;have NU:=aM hN;have NY:=aM hY;have OK:=aM hok;have BU:=aM hu;clear hN hY hok hu HZ2 H;obtain⟨e6,e7,f6,f7⟩:=bk2 BM2;obtain⟨hdz0,hgz0⟩:=bk1 BU;obtain⟨hez_0,hez_1,m9,n0⟩:=bk2 BM4;go_wp2
        refine bodyPost_ret (iA rfl _ _ d7 24 #[.int .i64 cp,.slice Au ls.length cu] (0,0) _ rfl (au (au BM4.out 0 (.int .i64 cp) rfl) 1 (.slice Au ls.length cu) rfl) Try.underlying24 rfl (by kernel_rfl)) rfl ?_
        have f1:∀ k,okl k→k≠d7:=fun k hk he=>absurd L4.out (by rw[← he];exact Nat.not_lt.2 (OK.out k hk))
        have f2:∀ k,(w.heap.size≤k∧¬ (k < o9.heap.size∨okl k))→k≠d7:=fun k hk he=>hk.2 (.inl (by rw[he];exact L4.out))
        have hou:=NU.out.1;have hoy:=NY.out.1;have hbu:=Kd.cO NU.out;refine⟨_,_,rfl,Kd.aG (Kd.bJ (p:=⟨d7,1,none⟩) (Kd.bJ (p:=⟨d7,0,none⟩) NU.out f1 (.int .i64 cp)) f1 (.slice Au ls.length cu)) (fun k hk=>⟨Nat.le_trans HBA.out (OK.out k hk),fun he=>(hoy k he.symm).2 (.inr hk)⟩),Kd.aG (Kd.bJ (p:=⟨d7,1,none⟩) (Kd.bJ (p:=⟨d7,0,none⟩) NY.out f2 (.int .i64 cp)) f2 (.slice Au ls.length cu)) (fun k hk=>⟨hk.1,fun he=>hk.2 (.inr (hou k he.symm))⟩),(r8.out.setCell (p:=⟨d7,0,none⟩) G4.out _).setCell (p:=⟨d7,1,none⟩) G4.out _⟩
       ·have h:=H.out;simp only[if_neg hr] at h;injection h with h
        injection h with m5 h
        injection h with m6 h
        injection h with m7 m8
        subst m5 m6 m7 m8;have r9:(o0 != 0)=true:=bne_iff_ne.mpr hr;obtain⟨hez_0,hez_1,m9,n0⟩:=bk2 BM4;go_wp2
        refine bodyPost_ret (iA rfl _ _ d7 24 #[.int .i64 0,.slice none 0 0] (0,0) _ rfl (au (au BM4.out 0 (.int .i64 0) rfl) 1 (.slice none 0 0) rfl) Try.underlying24 rfl (by kernel_rfl)) rfl ?_
        exact⟨_,_,rfl,Kd.fU _ _ _ _ _,Kd.fU _ _ _ _ _,(r8.out.setCell (p:=⟨d7,0,none⟩) G4.out _).setCell (p:=⟨d7,1,none⟩) G4.out _⟩
      ·rw[if_neg hln] at h;cases h
    ·have h:=H.out;simp only[if_neg hr] at h;injection h with h
     injection h with m5 h
     injection h with m6 h
     injection h with m7 m8
     subst m5 m6 m7 m8;have r9:(n8 != 0)=true:=bne_iff_ne.mpr hr;obtain⟨hez_0,hez_1,m9,n0⟩:=bk2 BL4;go_wp2
     refine bodyPost_ret (iA rfl _ _ d7 24 #[.int .i64 0,.slice none 0 0] (0,0) _ rfl (au (au BL4.out 0 (.int .i64 0) rfl) 1 (.slice none 0 0) rfl) Try.underlying24 rfl (by kernel_rfl)) rfl ?_
     exact⟨_,_,rfl,Kd.fU _ _ _ _ _,Kd.fU _ _ _ _ _,(l7.out.setCell (p:=⟨d7,0,none⟩) G4.out _).setCell (p:=⟨d7,1,none⟩) G4.out _⟩
 ·have h:=H.out;simp only[if_neg hr] at h;injection h with h
  injection h with m5 h
  injection h with m6 h
  injection h with m7 m8
  subst m5 m6 m7 m8;have r9:(b4 != 0)=true:=bne_iff_ne.mpr hr;obtain⟨hez_0,hez_1,m9,n0⟩:=bk2 BL4;go_wp2
  refine bodyPost_ret (iA rfl _ _ d7 24 #[.int .i64 0,.slice none 0 0] (0,0) _ rfl (au (au BL4.out 0 (.int .i64 0) rfl) 1 (.slice none 0 0) rfl) Try.underlying24 rfl (by kernel_rfl)) rfl ?_
  exact⟨_,_,rfl,Kd.fU _ _ _ _ _,Kd.fU _ _ _ _ _,(l7.out.setCell (p:=⟨d7,0,none⟩) G4.out _).setCell (p:=⟨d7,1,none⟩) G4.out _⟩
theorem tJ (k:Nat) (mass:Int) (lb:Bool) (l1 l2:List Int) (l:List S33) (j:Int) (ls:List S33):LeO (jo k mass lb l1 l2 l j ls) (jo (k+1) mass lb l1 l2 l j ls):=by
 unfold jo;exact LeO.ite (LeO.ite (LeO.bind (LeO.refl _) (fun _=>LeO.bind (Dzk.mono _ k) (fun _=>LeO.refl _))) (LeO.bind (Dzk.mono _ k) (fun _=>LeO.bind (Ezk.mono _ _ _ _ _ _ k) (fun _=>LeO.ite (LeO.bind (Gzb.mono _ _ _ _ _ _ k) (fun _=>LeO.ite (LeO.bind (Gzq.mono _ _ _ _ _ _ k) (fun _=>LeO.refl _)) (LeO.refl _))) (LeO.refl _))))) (LeO.refl _)
theorem Fzb.mono:∀ a6 a7 a8 k,LeO (Fzb.f k a6 a7 a8) (Fzb.f (k+1) a6 a7 a8):=by
 intro a6 a7 a8 k;unfold Fzb.f;exact LeO.bind (Fzk.mono _ _ k) (fun _=>LeO.ite (LeO.ite (LeO.refl _) (LeO.ite (LeO.refl _) (LeO.bind (Hzz.mono _ _ _ k) (fun _=>LeO.ite (LeO.ite (LeO.refl _) (LeO.ite (LeO.bind (qc (fun j s=>tJ _ _ _ _ _ _ _ _) _ _ _ _) (fun _=>LeO.refl _)) (LeO.refl _))) (LeO.refl _))))) (LeO.refl _))

end Go.Proofs.Ytbnpcplckcipfaa.Print
