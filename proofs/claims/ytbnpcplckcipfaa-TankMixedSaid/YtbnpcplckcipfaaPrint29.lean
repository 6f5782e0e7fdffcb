import Derived.Test.YtbnpcplckcipfaaPrint0
import Derived.Test.YtbnpcplckcipfaaPrint24
import Derived.Test.YtbnpcplckcipfaaPrint27
import Derived.Test.YtbnpcplckcipfaaPrint10
import Derived.Test.YtbnpcplckcipfaaPrint12
import Derived.Test.YtbnpcplckcipfaaPrint15
namespace Go.Proofs.Ytbnpcplckcipfaa.Print
open Go.RowKit Go.Proofs.YtbnpcplckcipfaaW.PrintWords Go.Proofs.YtbnpcplckcipfaaW.PrintLast Go.Proofs.YtbnpcplckcipfaaW.PrintMore
attribute [local go_sem] max2_int min2_int max_two min_two max_three min_three max_four min_four
set_option linter.unusedVariables false
set_option maxRecDepth 100000
set_option maxHeartbeats 8000000
set_option linter.unusedSimpArgs false

theorem nBd {α:Type} {d:Kd α} {e base b:Nat} {w:World} {P:Nat→Prop} {v:Value} {xs:List α} (h:Kd.N d e w base (fun k=>b≤k∧P k) v xs):Kd.N d e w base (fun k=>P k∧b≤k∧True) v xs:=Kd.N_mono h (fun _ h=>⟨h.2,h.1,trivial⟩)
theorem nBe {α:Type} {d:Kd α} {e base b:Nat} {w:World} {v:Value} {xs:List α} (h:Kd.N d e w base (fun k=>b≤k) v xs):Kd.N d e w base (fun k=>True∧b≤k∧True) v xs:=Kd.N_mono h (fun _ h=>⟨trivial,h,trivial⟩)
theorem N_make0 {P:Program} {ops:Array Oper} {Q:Exit→Act→World→Prop} {rest:List Oper} {o:Oper} {a:Act} {α:Type} (d:Kd α) {wo W:World} (base e:Nat) (hgd:o.guard=none) {N:Tmp} (hd:o.dst=some N) (t:TypeId) (x y:Operand) (ho:o.op=.makeSlice t x y) (n:Nat) (hx:a.eval x=.int .i64 0) (hy:a.eval y=.int .i64 (n:Int))
  (ht:P.underlying t=some (.slice e)) (z:Value) (bytes:Nat) (hinfo:(P.info? e).map (fun i=>(i.zero,i.size,i.bytes))=some (some z,d.sz,bytes)) (hz:z.cells.size=d.sz) (a6:0 < d.sz) (a7:0 < bytes)
  (z0:α) (hzero:d.M W base (fun _=>False) z0 z.cells.toList) {ok:Nat→Prop} (hfresh:ok W.heap.size) (hl:n * bytes≤281474976710656) (HB:Below base wo W) (hbase:base≤W.heap.size)
  (h:∀ a8 w1,Kd.N d e w1 base ok a8 []→Below base wo w1→W.grownBy w1 none→(∃ b,a8.ownBlock=some b∧W.heap.size≤b)→wpList P ops Q rest (a.put o.dst a8) w1):wpList P ops Q (o :: rest) a W:=by
 obtain⟨i0,hi,hzz⟩:=Option.map_eq_some_iff.1 hinfo;simp only[Prod.mk.injEq] at hzz;obtain⟨hz0,hz1,hz2⟩:=hzz;have hm:n≤281474976710656:=Nat.le_trans (Nat.le_mul_of_pos_right _ a7) hl;have hr:=run_make (P:=P) W t e i0 z ht hi hz0 .i64 .i64 0 (n:Int) (by omega) (by omega)
  (by
   have a9:((i0.bytes * n:Nat):Int)≤281474976710656:=by rw[hz2,Nat.mul_comm];omega
   rwa [Int.natCast_mul] at a9) (by omega)
 simp only[Int.toNat_natCast,Int.toNat_zero] at hr;rw[hz1] at hr;refine Kd.event_run (v:=.slice (some ⟨W.heap.size,0,none⟩) 0 n) (w1:=W.alloc (.cells (madeCells z.cells (n * d.sz)) e)) hgd (by simp [execOp,ho,hx,hy,hr]) (h _ _ ?_ (HB.alloc hbase _) (World.grownBy_alloc W _ none) ⟨W.heap.size,by simp [Value.ownBlock],Nat.le_refl _⟩)
 have hrep:Reps (d.M W base (fun _=>False)) d.sz (List.replicate n z0) (madeCells z.cells (n * d.sz)).toList:=Kd.reps_made hz a6 hzero n
 have hR:d.R e (W.alloc (.cells (madeCells z.cells (n * d.sz)) e)) base ok (.slice (some ⟨W.heap.size,0,none⟩) n n) (List.replicate n z0):=by
  refine⟨fun k hk=>?_,(madeCells z.cells (n * d.sz)).toList,?_,?_⟩
  ·have:W.heap.size=k:=by simpa [Value.ownBlock] using hk
   subst this;exact hfresh
  ·have b4:=World.ownsRow_lit (base:=base) (e:=e) (size:=d.sz) W (madeCells z.cells (n * d.sz)) n hbase (by simp [maxLen];omega) (by simpa using hrep.1)
   simpa using b4
  ·exact hrep.imp_ (fun p c hp=>d.M_mono (fun k hk=>hk.elim) (d.M_below hp (below_alloc (Below.refl _ _) _)))
 have:=Kd.R_take (m:=0) hR (by simp)
 exact Kd.R_N (by simpa using this)
theorem goesw1_ {P:Program} {ops:Array Oper} {Q:Exit→Act→World→Prop} {rest:List Oper} {oi:Oper} {a:Act} {w:World} (N:Option Tmp) (hd:oi.dst=N) (hg:oi.guard=none) {f:FuncId} {caps:Array Value} {fn:Func} {c x:Operand} {ts:Array TypeId} (hf:P.funcs[f]?=some fn) (hname:(fn.name == "runtime.NumGoroutine")=false) (hb:fn.body.isSome=true)
  (hop:oi.op=.call { callee:=.value c,args:=#[x],argTypes:=ts }) (hc:a.eval c=.func (.func f) #[] caps)
  (h:Calls P f (#[a.eval x] ++ caps) w fun e w'=>∃ v,e=.returned v∧wpList P ops Q rest (a.put N v) w'):wpList P ops Q (oi :: rest) a w:=by
 refine wpList_plain hg fun K hK=>?_
 have he:=enters_ hf hname hb (#[a.eval x] ++ caps) w;have hrun:(execOp a.eval oi).run P w=.ok (.enter f (#[a.eval x] ++ caps)) w:=by
  unfold execOp;simp [hop,resolve,hc,Deferred.ofValue,invoke] at he ⊢;simp [he]
 unfold Oper.wp;rw[hrun,Oper.upon_enter];refine h.mono fun e w'' hh=>?_
 obtain⟨v,rfl,hk⟩:=hh;subst hd;exact hK _ _ hk
/-- What 'each' asks of the function that it calls. -/
structure Each_ (ff:Nat) (fc:Array Value) (n:Nat) (w0:World) (I:Nat→List S33→World→(Nat→Prop)→Prop) (Q:Int→World→Prop):Prop where
 fn:∃ fn,Try.prog.funcs[ff]?=some fn∧(fn.name == "runtime.NumGoroutine")=false∧fn.body.isSome=true
 step:∀ (j:Nat) xs W ok,j < n→I j xs W ok→bw w0 W→Calls Try.prog ff (#[.int .i64 (j:Int)] ++ fc) W fun e W'=>∃ (b:Bool) (v1 v2:Value) (p q:List Int) (r:Int),e=.returned (.tuple #[.agg #[.bool b,v1,v2],.int .i64 r])∧bw w0 W'∧(r≠0→Q r W')∧(∃ ok':Nat→Prop,(r=0→I (j+1) (xs ++ [(⟨b,p,q⟩:S33)]) W' ok')∧(∀ k,ok' k→ok k∨W.heap.size≤k)∧(∀ k,ok' k→k < W'.heap.size)∧Kd.FK k33 W' (fun k=>W.heap.size≤k∧¬ ok' k) (⟨b,p,q⟩:S33) [.bool b,v1,v2]∧Kept W W' ok)
 lt:∀ j xs W ok,I j xs W ok→∀ k,ok k→k < W.heap.size
 frame:∀ j xs W W' ok,I j xs W ok→Below 0 W W'→(∀ k,ok k→W'.heap[k]?=W.heap[k]?)→I j xs W' ok
 err:∀ r W W',Q r W→Below W.heap.size W W'→Q r W'
theorem grown_below0 {w a6:World} {row:Option Nat} (h:w.grownBy a6 row):Below 0 w a6:=⟨h.os,h.tape,h.output,h.size,fun k hk=>absurd hk (Nat.not_lt_zero _)⟩
theorem Hzj.calls (cp:Int) (A:Option Addr) (n c:Nat) (ff:Nat) (fc:Array Value) (w0 w:World) (I:Nat→List S33→World→(Nat→Prop)→Prop) (Q:Int→World→Prop) (ok0:Nat→Prop) (hS:Each_ ff fc n w0 I Q) (a6:I 0 [] w ok0) (hB:bw w0 w) (hn:n≤1000) :
  Calls Try.prog 48 #[.agg #[.int .i64 cp,.slice A n c],.func (.func ff) #[] fc] w fun e w'=>∃ (v:Value) (r:Int),e=.returned (.tuple #[v,.int .i64 r])∧bw w0 w'∧(r≠0→v=.slice none 0 0∧Q r w')∧(r=0→∃ xs ok,I n xs w' ok∧Kd.N k33 33 w' w0.heap.size (fun k=>w0.heap.size≤k∧¬ ok k) v xs):=by
 have HS:=aM hS;have H0:=aM a6;have HB:=aM hB;have HN:=aM hn;clear hS a6 hB hn;go_enter Try.func48,Try.ntmps48
 go_upto_region 1 with (first|((with_reducible refine gd 2 rfl ?_);refine bx #[.int .i64 cp,.slice A n c] 24 ?_;intro a7 hg w1 a8 hb;have a9:=aM hb;have G0:=aM (show w.heap.size≤a7 by rw[hg];exact Nat.le_refl _);clear hb hg))
 have BW1:=aM (HB.out.trans (a9.out.mono HB.out.size));have hn2_:=HN.out;have I1:=aM (HS.out.frame 0 [] w w1 ok0 H0.out (a9.out.mono (Nat.zero_le _)) (fun k hk=>a9.out.block k (HS.out.lt _ _ _ _ H0.out k hk)))
 have L1:=aM (HS.out.lt _ _ _ _ H0.out);have F1:=aM (show w0.heap.size≤w1.heap.size∧¬ ok0 w1.heap.size from⟨BW1.out.size,fun hk=>absurd (L1.out _ hk) (Nat.not_lt.2 a9.out.size)⟩)
 clear H0;obtain⟨b4,b5,b6,b7⟩:=bk2 a8;go_upto_region 2 with (first|((with_reducible refine gate_dst (N:=13) rfl ?_);refine N_make0 k33 (wo:=w0) w0.heap.size 33 rfl (N:=13) rfl 22 _ _ rfl n rfl rfl Try.underlying22 _ 56 info33 rfl (by decide) (by decide) z33 ?hzero (ok:=fun k=>w0.heap.size≤k∧¬ ok0 k) ?hfresh (by omega) BW1.out BW1.out.size ?_;(case hzero=>exact⟨_,_,rfl,rfl,_,_,rfl,⟨_,rfl,Kd.R_nil _ _ _ _ _⟩,⟨_,rfl,Kd.R_nil _ _ _ _ _⟩⟩);(case hfresh=>exact F1.out);intro b8 b9 hN2 d6 hg2 hat2;have HN2:=aM hN2;have d7:=aM d6;have d8:=aM hg2;clear hN2 d6 hg2 hat2))
 have I2:=aM (HS.out.frame 0 [] w1 b9 ok0 I1.out (grown_below0 d8.out) (fun k hk=>d8.out.block k (Nat.lt_of_lt_of_le (L1.out k hk) a9.out.size) (by simp)))
 obtain⟨d9⟩:Aside0 (b9.heap[a7]?=some (.cells #[.int .i64 cp,.slice A n c] 24 (0,0))):=⟨(d8.out.block a7 (blk_lt a8.out) (by simp)).trans a8.out⟩
 have d9:=aM d9;clear b4 b5 b6 b7 a8 a9 BW1 I1 F1 d8 HB;obtain⟨b4,b5,b6,b7⟩:=bk2 d9;go_wp2
 go_loopg [6,17] (n+1) (fun kq e6 e7 w'=>∃ (j:Nat) (xs:List S33) (okj:Nat→Prop),e7=.int .i64 (j:Int)∧Aside0 (j+kq=n+1∧0 < kq)∧Aside0 (xs.length=j)∧Aside0 (I j xs w' okj)∧Aside0 (Kd.N k33 33 w' w0.heap.size (fun k=>w0.heap.size≤k∧¬ okj k) e6 xs)∧Aside0 (bw w0 w'))
 case atStart=>exact⟨0,[],ok0,rfl,⟨by omega,by omega⟩,⟨rfl⟩,I2,HN2,d7⟩
 case round =>
  clear b4 b5 b6 b7 d9 I2 HN2 d7;obtain⟨j_,xs_,okj,rfl,HJ,HX,HI,HO,HB⟩:=hrel;cases gk with
  | zero=>exact absurd HJ.out.2 (by omega)
  | succ k1 =>
   by_cases c5:(j_:Int) < (n:Int)
   ·have e8:=dE c5;have e9:decide (j_ < n)=true:=dE (by omega)
    have f3:=aM c5;clear c5;obtain⟨fn_,hf_,hn_,hb_⟩:=HS.out.fn;have HF:=aM hf_;have HNM:=aM hn_;have HBD:=aM hb_;have HC:=aM (HS.out.step j_ xs_ wr okj (by have:=f3.out;omega) HI.out HB.out)
    have HLJ:=aM (HS.out.lt _ _ _ _ HI.out);clear hf_ hn_ hb_ HI;go_upto_region 6 with (first|(refine goesw1_ (some 23) rfl rfl (f:=ff) (caps:=fc) HF.out HNM.out HBD.out rfl (by first|rfl|(simp [Act.eval];done)) ?_;refine HC.out.mono ?_;rintro e f4 ⟨b_,v1_,v2_,p_,q_,r_,rfl,f5,f6,ok9,f7,f8,f9,g4,hk9⟩;refine⟨_,rfl,?_⟩;have g5:=aM f5;have g6:=aM f6;have g7:=aM f7;have HS9:=aM f8;have g8:=aM f9;have g9:=aM hk9;obtain⟨j3,c1_,j4,c2_,he_,_,_,_,_⟩:=k33_open (Kd.FK_now g4);injection he_ with he_ he2_;injection he2_ with he2_ he3_;injection he3_ with he3_ _;subst he2_ he3_;have j5:=aM g4;clear f5 f6 f7 f8 f9 g4 hk9 he_ HC HF HNM HBD)|((with_reducible refine gd 8 rfl ?_);refine bz 33 ?_;intro j6 hg wb j7 hb;have j8:=aM hb;have G8:=aM (show f4.heap.size≤j6 by rw[hg];exact Nat.le_refl _);clear hb hg;obtain⟨j9,l5,l6,l7,l8,l9⟩:=bk3 j7))
    have BK:=aM (blk_put (blk_put (blk_put j7.out 0 (.bool b_) rfl) 1 (.slice j3 p_.length c1_) rfl) 2 (.slice j4 q_.length c2_) rfl);have HWW:=aM (((j8.out.setCell (p:=⟨j6,0,none⟩) G8.out (.bool b_)).setCell (p:=⟨j6,1,none⟩) G8.out (.slice j3 p_.length c1_)).setCell (p:=⟨j6,2,none⟩) G8.out (.slice j4 q_.length c2_));clear j9 l5 l6 l7 l8 l9 j8 j7;generalize (((wb.setCell { block:=j6,off:=0 } (Value.bool b_)).setCell { block:=j6,off:=1 } (Value.slice j3 p_.length c1_)).setCell { block:=j6,off:=2 } (Value.slice j4 q_.length c2_))=m0 at BK HWW ⊢;have m4:=aM (g5.out.trans (HWW.out.mono g5.out.size));by_cases hr:r_=0
    ·subst hr;have m5:=aM (HS.out.frame _ _ _ m0 _ (g7.out rfl) (HWW.out.mono (Nat.zero_le _)) (fun k hk=>HWW.out.block k (g8.out k hk)))
     have m6:=aM (Kd.N_below (Kd.N_mono (ok':=fun k=>w0.heap.size≤k∧¬ ok9 k) (Kd.N_step (w1:=f4) (Kd.N_bound HO.out) (fun k hk hlt=>g9.out.2 k hlt hk.1.2)) (fun k hk=>⟨hk.1.1,fun m7=>(HS9.out k m7).elim hk.1.2 (fun h=>absurd hk.2 (Nat.not_lt.2 h))⟩)) HWW.out)
     have HLT:=aM (fun k=>Kd.N_lt HO.out k)
     have HOK:=aM (fun k (hk:u6.ownBlock=some k)=>m6.out.1 k hk)
     have HP:=aM (Kd.FK_mono (ok':=fun k=>(w0.heap.size≤k∧¬ ok9 k)∧some k≠u6.ownBlock) (Kd.FK_step (W1:=m0) (Kd.FK_bound j5.out) (fun k hk hlt=>HWW.out.block k hk.2)) (fun k hk=>⟨⟨Nat.le_trans HB.out.size hk.1.1,hk.1.2⟩,fun he=>absurd (HLT.out k he.symm) (Nat.not_lt.2 hk.1.1)⟩))
     have HFR:=aM (show ∀ k,m0.heap.size≤k→w0.heap.size≤k∧¬ ok9 k from fun k hk=>⟨Nat.le_trans m4.out.size hk,fun m7=>absurd (g8.out k m7) (Nat.not_lt.2 (Nat.le_trans HWW.out.size hk))⟩)
     have HLN:=aM (show(xs_.length+1) * 56≤140737488355328 by have:=HX.out;have:=f3.out;have:=HN.out;omega)
     have m8:=aM (show ∀ k,ok9 k→k < m0.heap.size from fun k m7=>Nat.lt_of_lt_of_le (g8.out k m7) HWW.out.size)
     clear g9 j5 HLT g6 g7 HS9 g8 HO g5 HLJ;obtain⟨m9,n0,n7,n8,n9,o0⟩:=bk3 BK;clear HWW BK;go_wp2_with (first|((with_reducible refine gate_builtin (b:=.append) (xs:=#[.tmp 29,.tmp 31]) rfl ?_);at_builtin;refine Kd.N_append k33 (w0:=w0) w0.heap.size rfl (.tmp 29) (.tmp 31) 22 33 (.agg #[(.bool false),(.slice none 0 0),(.slice none 0 0)]) 56 rfl Try.underlying22 info33 rfl (by decide) (by omega) u6 xs_ (⟨b_,p_,q_⟩:S33) [.bool b_,.slice j3 p_.length c1_,.slice j4 q_.length c2_] (fun k=>w0.heap.size≤k∧¬ ok9 k) (fun k=>(w0.heap.size≤k∧¬ ok9 k)∧some k≠u6.ownBlock) rfl rfl ?aP (fun _ hk=>hk) ?aF ?aO ?aB ?aS ?aL ?_;(case aP=>exact HP.out);(case aF=>exact HFR.out);(case aO=>exact m6.out);(case aB=>exact m4.out);(case aS=>exact m4.out.size);(case aL=>exact HLN.out);intro o8 o9 ho hb hg hat;have p0:=aM ho;have p4:=aM hb;have p7:=aM (HS.out.frame _ _ _ o9 _ m5.out (grown_below0 hg) (fun k hk=>hg.block k (m8.out k hk) (fun he=>(HOK.out k he.symm).2 hk)));clear ho hb hg hat m5 m6 m4))
     go_roundg k1
     case measure=>omega
     case rel =>
      have e_:wrap64 ((j_:Int)+1)=((j_+1:Nat):Int):=by have:=HN.out;have:=f3.out;unfold wrap64;omega
      exact⟨j_+1,_,ok9,by rw[e_],⟨by have:=HJ.out;omega,by have:=HJ.out;have:=f3.out;omega⟩,⟨by have:=HX.out;simp;omega⟩,p7,p0,p4⟩
    ·have p9:(r_ != 0)=true:=bne_iff_ne.mpr hr;have HQ:=aM (HS.out.err _ _ m0 (g6.out hr) HWW.out);go_wp2
     go_ret2
     exact⟨_,r_,rfl,m4.out,fun _=>⟨rfl,HQ.out⟩,fun h=>absurd h hr⟩
   ·have e8:decide ((j_:Int) < (n:Int))=false:=decide_eq_false c5;have e9:decide (j_ < n)=false:=decide_eq_false (by omega)
    have f3:=aM c5;clear c5;go_wp2
    go_ret2
    obtain rfl:j_=n:=by have:=f3.out;have:=HJ.out;omega
    exact⟨_,0,rfl,HB.out,fun h=>absurd rfl h,fun _=>⟨xs_,okj,HI.out,HO.out⟩⟩
/-- What 'each' tells: one number after the other,with a state of the function's own. -/
def eachL {σ:Type} (g:Nat→σ→Option (σ × S33 × Int)):Nat→Nat→σ→List S33→Option (σ × List S33 × Int)
 | 0,_,s,acc=>some (s,acc,0)
 | c+1,j,s,acc=>(g j s).bind fun x=>if x.2.2=0 then eachL g c (j+1) x.1 (acc ++ [x.2.1]) else some (x.1,[],x.2.2)
theorem eachL_mono {σ:Type} {g g':Nat→σ→Option (σ × S33 × Int)} (h:∀ j s,LeO (g j s) (g' j s)):∀ c j s acc,LeO (eachL g c j s acc) (eachL g' c j s acc):=by
 intro c;induction c with
 | zero=>intro j s acc;exact LeO.refl _
 | succ c ih =>
  intro j s acc;rw[eachL,eachL];exact LeO.bind (h j s) (fun x=>LeO.ite (ih _ _ _) (LeO.refl _))
structure Each2_ {σ:Type} (g:Nat→σ→Option (σ × S33 × Int)) (ff:Nat) (fc:Array Value) (n:Nat) (w0:World) (J:World→Prop) (St:Nat→σ→World→(Nat→Prop)→Prop):Prop where
 fn:∃ fn,Try.prog.funcs[ff]?=some fn∧(fn.name == "runtime.NumGoroutine")=false∧fn.body.isSome=true
 step:∀ (j:Nat) s W ok s' b p q r,j < n→St j s W ok→bw w0 W→g j s=some (s',(⟨b,p,q⟩:S33),r)→Calls Try.prog ff (#[.int .i64 (j:Int)] ++ fc) W fun e W'=>∃ (v1 v2:Value),e=.returned (.tuple #[.agg #[.bool b,v1,v2],.int .i64 r])∧bw w0 W'∧J W'∧(∃ ok':Nat→Prop,(r=0→St (j+1) s' W' ok')∧(∀ k,ok' k→ok k∨W.heap.size≤k)∧(∀ k,ok' k→k < W'.heap.size)∧Kd.FK k33 W' (fun k=>W.heap.size≤k∧¬ ok' k) (⟨b,p,q⟩:S33) [.bool b,v1,v2]∧Kept W W' ok)
 lt:∀ j s W ok,St j s W ok→∀ k,ok k→k < W.heap.size
 frame:∀ j s W W' ok,St j s W ok→Below 0 W W'→(∀ k,ok k→W'.heap[k]?=W.heap[k]?)→St j s W' ok
 stay:∀ W W',J W→Below W.heap.size W W'→J W'
theorem Gzf.calls {σ:Type} (g:Nat→σ→Option (σ × S33 × Int)) (cp:Int) (A:Option Addr) (n c:Nat) (ff:Nat) (fc:Array Value) (a6 w:World) (J:World→Prop) (St:Nat→σ→World→(Nat→Prop)→Prop) (a7 a8:σ) (ys:List S33) (r:Int) (ok0:Nat→Prop) (hS:Each2_ g ff fc n a6 J St) (a9:St 0 a7 w ok0) (hB:Below a6.heap.size a6 w) (hn:n≤1000) (h:eachL g n 0 a7 []=some (a8,ys,r)) :
  Calls Try.prog 48 #[.agg #[.int .i64 cp,.slice A n c],.func (.func ff) #[] fc] w fun e w'=>∃ (v:Value),e=.returned (.tuple #[v,.int .i64 r])∧Below a6.heap.size a6 w'∧(r≠0→v=.slice none 0 0∧J w')∧(r=0→∃ ok,St n a8 w' ok∧Kd.N k33 33 w' a6.heap.size (fun k=>a6.heap.size≤k∧¬ ok k) v ys):=by
 refine(Hzj.calls cp A n c ff fc a6 w (fun j xs W ok=>∃ s,St j s W ok∧j≤n∧eachL g (n - j) j s xs=some (a8,ys,r)) (fun q W=>q=r∧J W) ok0 ⟨hS.fn,?_,?_,?_,fun _ W W' h hb=>⟨h.1,hS.stay W W' h.2 hb⟩⟩ ⟨a7,a9,Nat.zero_le _,by simpa using h⟩ hB hn).mono ?_
 ·rintro j xs W ok hj ⟨s,hs,_,he⟩ hb;obtain⟨m,hm⟩:∃ m,n - j=m+1:=⟨n - j - 1,by omega⟩
  rw[hm,eachL,Option.bind_eq_some_iff] at he;obtain⟨⟨s',⟨b,p,q⟩,e⟩,hg,he⟩:=he;refine(hS.step j s W ok s' b p q e hj hs hb hg).mono ?_;rintro e' W' ⟨b4,b5,rfl,hb',hj',ok',hst,b6,b7,b8,b9⟩;refine⟨b,b4,b5,p,q,e,rfl,hb',fun hr=>?_,ok',fun hr=>?_,b6,b7,b8,b9⟩
  ·simp only[if_neg hr] at he;injection he with he
   exact⟨(congrArg (fun z=>z.2.2) he),hj'⟩
  ·simp only[if_pos hr] at he;exact⟨s',hst hr,hj,by rw[show n - (j+1)=m by omega];exact he⟩
 ·rintro j xs W ok ⟨s,hs,_⟩;exact hS.lt j s W ok hs
 ·rintro j xs W W' ok ⟨s,hs,hj,he⟩ hb hk;exact⟨s,hS.frame j s W W' ok hs hb hk,hj,he⟩
 ·rintro e w' ⟨v,q,rfl,hb,b6,b7⟩;by_cases hq:q=0
  ·obtain⟨xs,ok,⟨s,hs,_,he⟩,hN⟩:=b7 hq;rw[Nat.sub_self,eachL] at he;injection he with he
   injection he with he1 he
   injection he with he2 he3
   subst he1 he2;subst hq;subst he3;exact⟨v,rfl,hb,fun h=>absurd rfl h,fun _=>⟨ok,hs,hN⟩⟩
  ·obtain⟨hv,hr,hj⟩:=b6 hq;subst hr;exact⟨v,rfl,hb,fun _=>⟨hv,hj⟩,fun h=>absurd h hq⟩
theorem Hzz.calls (k:Nat) (cp:Int) (gt gm:Nat) (A:Option Addr) (c:Nat) (l:List S33) (mf:Nat) (mc:Array Value) (j:Int) (y:S33) (a6:Bool) (a7 a8:List Int) (a9:Int) (w:World)
  (ht:w.heap[gt]?=some (.cells #[.int .i64 cp,.slice A l.length c] 24 (0,0))) (hm:w.heap[gm]?=some (.cells #[.func (.func mf) #[] mc] 50 (0,0))) (hC:Kd.C k33 w A l.length l) (b4:0≤j) (b5:j < (l.length:Int))
  (hfn:∃ fn,Try.prog.funcs[mf]?=some fn∧(fn.name == "runtime.NumGoroutine")=false∧fn.body.isSome=true)
  (hy:∀ W,bw w W→Calls Try.prog mf (#[.int .i64 j] ++ mc) W fun e W'=>∃ b6 b7 b8 c2,e=.returned (.agg #[.bool y.f0,.slice b6 y.f1.length b7,.slice b8 y.f2.length c2])∧Below W.heap.size W W'∧y.f1.length≤b7∧(Kd.int .i64).C W' b6 y.f1.length y.f1∧y.f2.length≤c2∧(Kd.int .i64).C W' b8 y.f2.length y.f2)
  (h:Ezf.f k (rd_T33 l j).f0 (rd_T33 l j).f1 (rd_T33 l j).f2 y.f0 y.f1 y.f2=some (a6,a7,a8,a9)) :
  Calls Try.prog 76 #[.int .i64 j,.pointer (some ⟨gt,0,none⟩),.pointer (some ⟨gm,0,none⟩)] w fun e w'=>∃ v1_ v2_:Value,e=.returned (.tuple #[.agg #[.bool a6,v1_,v2_],.int .i64 a9])∧rI w' w (oV v2_) v1_ a7∧rI w' w (oV v1_) v2_ a8∧bw w w':=by
 obtain⟨fn_,hf_,hn_,hb_⟩:=hfn;have HF:=aM hf_;have HNM:=aM hn_;have HBD:=aM hb_;have HQ:=aM hy;have HH:=aM h;have HB:=aM (Below.refl w.heap.size w);obtain⟨ad,b6,b7,b8,c2,ead,b9,d6,d7,d8,hC1,d9,hC2⟩:=at_T33 hC j b4 b5;subst ead;have HX:=aM (And.intro b9 (And.intro d6 d7));have HE:=aM (And.intro d8 (And.intro hC1 (And.intro d9 hC2)));have T1:=aM ((blk_cell ht 1).trans rfl);have M1:=aM ((blk_cell hm 0).trans rfl);have pT:=eq_true b4;have qT:=eq_true b5;clear hf_ hn_ hb_ hy h b9 d6 d7 d8 hC1 d9 hC2 ht hm hC b4 b5;go_enter Try.func76,Try.ntmps76
 go_upto_region 1 with (first|((with_reducible refine gd 4 rfl ?_);refine bz 33 ?_;intro e6 hg wb e7 hb;have G4:=aM (show w.heap.size≤e6 by rw[hg];exact Nat.le_refl _);replace HB:=bB hb;clear hb hg))
 have hS:∀ W,bw w W→W.cell? ⟨gt,1,none⟩=some (.slice (some ad) l.length c)∧W.cell? ⟨gm,0,none⟩=some (.func (.func mf) #[] mc)∧W.cell? (ad.add (j.toNat * 3))=some (.bool (rd_T33 l j).f0)∧W.cell? ⟨(ad.add (j.toNat * 3)).block,(ad.add (j.toNat * 3)).off+1,none⟩=some (.slice b6 (rd_T33 l j).f1.length b7)∧W.cell? ⟨(ad.add (j.toNat * 3)).block,(ad.add (j.toNat * 3)).off+2,none⟩=some (.slice b8 (rd_T33 l j).f2.length c2):=fun W hW=>⟨pw_cell_below hW T1.out,pw_cell_below hW M1.out,pw_cell_below hW HX.out.1,pw_cell_below hW HX.out.2.1,pw_cell_below hW HX.out.2.2⟩
 have HBd:=aM HB.out.drew;have e8:=aM (blk_drew e7.out);have HS:=aM hS;clear hS;refine start_ (n:=13) (S:=fun W=>W.cell? ⟨gt,1,none⟩=some (.slice (some ad) l.length c)∧W.cell? ⟨gm,0,none⟩=some (.func (.func mf) #[] mc)∧W.cell? (ad.add (j.toNat * 3))=some (.bool (rd_T33 l j).f0)∧W.cell? ⟨(ad.add (j.toNat * 3)).block,(ad.add (j.toNat * 3)).off+1,none⟩=some (.slice b6 (rd_T33 l j).f1.length b7)∧W.cell? ⟨(ad.add (j.toNat * 3)).block,(ad.add (j.toNat * 3)).off+2,none⟩=some (.slice b8 (rd_T33 l j).f2.length c2)) (ds:=[]) (bA 13 0) (by kernel_rfl) rfl rfl (HS.out _ HBd.out) (fun hHeld=>?_)
 generalize wb.drew=w1 at HBd e8 hHeld ⊢;refine pV 0 6 (bA 13 1) ?_;refine tV 1 7 (bA 13 3) hHeld ?_;refine pV 2 8 (bA 13 7) ?_;refine pV 3 9 (bA 13 15) ?_;refine tV 4 10 (bA 13 31) hHeld ?_;refine tV 5 11 (bA 13 63) hHeld ?_;refine pV 6 12 (bA 13 127) ?_;have hQ1:=HQ.out w1 HBd.out;refine one_ (i:=7) (N:=some 13) (bA 13 255) rfl rfl (by kernel_rfl) (by decide) (fun K hK=>?_)
 refine goesv_ (f:=mf) (fn:=fn_) HF.out HNM.out HBD.out (#[.int .i64 j] ++ mc) (by rfl) rfl rfl (by simp [Act.eval,capsOf]) ?_
 refine hQ1.mono ?_;rintro e f7 ⟨B1,d1,B2,d2,rfl,f8,f9,hC3,g4,hC4⟩;refine⟨_,rfl,?_⟩;have g5:=aM (below_then HBd.out HBd.out.size f8);have g6:=aM (blk_below e8.out f8);have HE2:=aM (And.intro f9 (And.intro hC3 (And.intro g4 hC4)));clear f8 f9 hC3 g4 hC4 e8 HBd hQ1;refine hK.out _ _ (HS.out _ g5.out) (fun hHeld=>?_)
 clear hK K;refine nm 13 ?_;refine one_ (i:=8) (N:=some 14) (bA 13 511) rfl rfl (by kernel_rfl) (by decide) (fun K hK=>?_)
 refine goes_ Try.func64 (by kernel_rfl) rfl #[.agg #[.bool (rd_T33 l j).f0,.slice b6 (rd_T33 l j).f1.length b7,.slice b8 (rd_T33 l j).f2.length c2],.agg #[.bool y.f0,.slice B1 y.f1.length d1,.slice B2 y.f2.length d2]] (by rfl) rfl rfl mA ?_
 refine(Ezf.calls k _ _ _ (rd_T33 l j).f1 _ _ (rd_T33 l j).f2 _ _ _ y.f1 _ _ y.f2 a6 a7 a8 a9 f7 (Kd.C_below HE.out.2.1 g5.out) HE.out.1 (Kd.C_below HE.out.2.2.2 g5.out) HE.out.2.2.1 HE2.out.2.1 HE2.out.1 HE2.out.2.2.2 HE2.out.2.2.1 HH.out).mono ?_;rintro e g7 ⟨g8,g9,rfl,j3,j4,hb⟩;refine⟨_,rfl,?_⟩;have j5:=aM (below_then g5.out g5.out.size hb);have j6:=aM (blk_below g6.out hb);have j7:=aM (Kd.R_lower j3 g5.out.size);have j8:=aM (Kd.R_lower j4 g5.out.size);clear j3 j4 hb g5 g6;obtain⟨j9,l5,rfl⟩:=Kd.R_slice j7.out;obtain⟨l6,l7,rfl⟩:=Kd.R_slice j8.out;refine hK.out _ _ (HS.out _ j5.out) (fun hHeld=>?_)
 clear hK K;refine nm 14 ?_;refine pV 9 15 (bA 13 1023) ?_;refine pV 10 16 (bA 13 2047) ?_;refine one_ (i:=11) (N:=none) (bA 13 4095) rfl rfl (by kernel_rfl) (by decide) (fun K hK=>?_)
 obtain⟨l8,l9,m0,m4,m5,m6⟩:=bk3 j6;refine skip_ (w1:=?_) (by rfl) rfl ?_ ?_
 rotate_left
 ·go_simp
  rfl
 have m7:=aM (((j5.out.setCell (p:=⟨e6,0,none⟩) G4.out (.bool a6)).setCell (p:=⟨e6,1,none⟩) G4.out (.slice j9 a7.length l5)).setCell (p:=⟨e6,2,none⟩) G4.out (.slice l6 a8.length l7));refine hK.out _ _ (HS.out _ m7.out) (fun hHeld=>?_)
 clear hK K;refine pV 12 5 (bA 13 8191) ?_;refine done_ (by kernel_rfl) ?_
 go_wp2
 refine rC e6 33 #[.bool a6,.slice j9 a7.length l5,.slice l6 a8.length l7] (blk_put (blk_put (blk_put j6.out 0 (.bool a6) rfl) 1 (.slice j9 a7.length l5) rfl) 2 (.slice l6 a8.length l7) rfl) Try.underlying33 ?_
 have fr:∀ (v u:Value) (xs:List Int) (b m8 m9:Value),rI g7 w (fun k_=>some k_≠u.ownBlock) v xs→Kd.R (Kd.int .i64) 3 (((g7.setCell ⟨e6,0,none⟩ b).setCell ⟨e6,1,none⟩ m8).setCell ⟨e6,2,none⟩ m9) w.heap.size (fun k_=>some k_≠u.ownBlock) v xs:=fun v u xs b m8 m9 hv=>Kd.R_mono (Kd.R_far (p:=⟨e6,2,none⟩) (Kd.R_far (p:=⟨e6,1,none⟩) (Kd.R_far (p:=⟨e6,0,none⟩) (Kd.R_types hv j6.out (by decide)) (fun _ hk=>hk.2) b) (fun _ hk=>hk.2) m8) (fun _ hk=>hk.2) m9) (fun _ hk=>hk.1)
 exact⟨_,_,rfl,fr _ _ _ _ _ _ j7.out,fr _ _ _ _ _ _ j8.out,m7.out⟩
theorem FK_of_R {w:World} {base:Nat} {b:Bool} {a6 a7:Option Addr} {a8 c2:Nat} {p q:List Int} {okp okq ok:Nat→Prop} (a9:Kd.R (Kd.int .i64) 3 w base okp (.slice a6 p.length a8) p) (b4:Kd.R (Kd.int .i64) 3 w base okq (.slice a7 q.length c2) q) (hok:∀ k,base≤k→k < w.heap.size→ok k):Kd.FK k33 w ok (⟨b,p,q⟩:S33) [.bool b,.slice a6 p.length a8,.slice a7 q.length c2] :=
 k33_mkF _ _ (⟨b,p,q⟩:S33) (Kd.R_reads' a9).2.1 (Kd.V_F (base:=base) (Kd.R_V (Kd.R_mono (ok':=ok) (Kd.R_tight rfl a9) (fun k hk=>hok k (Kd.R_base a9 k hk.symm) (Kd.R_lt a9 k hk.symm))))) (Kd.R_reads' b4).2.1 (Kd.V_F (base:=base) (Kd.R_V (Kd.R_mono (ok':=ok) (Kd.R_tight rfl b4) (fun k hk=>hok k (Kd.R_base b4 k hk.symm) (Kd.R_lt b4 k hk.symm)))))
/-- One number of a filled tank. -/
def filled_g (k:Nat) (g:Nat→Option S33) (l:List S33) (j:Nat) (_:Unit):Option (Unit × S33 × Int):=(g j).bind fun y=>(Ezf.f k (rd_T33 l (j:Int)).f0 (rd_T33 l (j:Int)).f1 (rd_T33 l (j:Int)).f2 y.f0 y.f1 y.f2).bind fun r=>some ((),(⟨r.1,r.2.1,r.2.2.1⟩:S33),r.2.2.2)
def Fzm.f (k:Nat) (g:Nat→Option S33) (cp:Int) (l:List S33):Option (Int × List S33 × Int):=if l.length≤1000 then(eachL (filled_g k g l) l.length 0 () []).bind fun x=>if x.2.2=0 then(Azm.f k cp x.2.1).bind fun e=>if e=0 then some (cp,x.2.1,0) else some (0,[],e) else some (0,[],x.2.2) else none
theorem filled_each (k:Nat) (g:Nat→Option S33) (cp:Int) (A:Option Addr) (c:Nat) (l:List S33) (mf:Nat) (mc:Array Value) (gt gm:Nat) (ys:List S33) (r:Int) (a6 w:World) (hB:Below a6.heap.size a6 w)
  (ht:w.heap[gt]?=some (.cells #[.int .i64 cp,.slice A l.length c] 24 (0,0))) (hm:w.heap[gm]?=some (.cells #[.func (.func mf) #[] mc] 50 (0,0))) (hC:Kd.C k33 w A l.length l) (hn:l.length≤1000)
  (hfn:∃ fn,Try.prog.funcs[mf]?=some fn∧(fn.name == "runtime.NumGoroutine")=false∧fn.body.isSome=true)
  (hy:∀ (j:Nat) y W,j < l.length→g j=some y→bw w W→Calls Try.prog mf (#[.int .i64 (j:Int)] ++ mc) W fun e W'=>∃ a7 a8 a9 c2,e=.returned (.agg #[.bool y.f0,.slice a7 y.f1.length a8,.slice a9 y.f2.length c2])∧Below W.heap.size W W'∧y.f1.length≤a8∧(Kd.int .i64).C W' a7 y.f1.length y.f1∧y.f2.length≤c2∧(Kd.int .i64).C W' a9 y.f2.length y.f2)
  (h:eachL (filled_g k g l) l.length 0 () []=some ((),ys,r)) :
  Calls Try.prog 48 #[.agg #[.int .i64 cp,.slice A l.length c],.func (.func 76) #[] #[.pointer (some ⟨gt,0,none⟩),.pointer (some ⟨gm,0,none⟩)]] w fun e w'=>∃ (v:Value),e=.returned (.tuple #[v,.int .i64 r])∧Below a6.heap.size a6 w'∧bw w w'∧(r≠0→v=.slice none 0 0)∧(r=0→Kd.N k33 33 w' a6.heap.size (fun k=>a6.heap.size≤k∧w.heap.size≤k) v ys):=by
 refine(Gzf.calls (filled_g k g l) cp A l.length c 76 #[.pointer (some ⟨gt,0,none⟩),.pointer (some ⟨gm,0,none⟩)] w w (fun _=>True) (fun _ _ W ok=>bw w W∧ok=fun k=>k < w.heap.size) () () ys r _ ⟨⟨_,Try.func76,by kernel_rfl,rfl⟩,?_,?_,?_,fun _ _ _ _=>trivial⟩ ⟨Below.refl _ _,rfl⟩ (Below.refl _ _) hn h).mono ?_
 ·rintro j s W ok s' b p q e hj ⟨hb,rfl⟩ _ hg;unfold filled_g at hg;rw[Option.bind_eq_some_iff] at hg;obtain⟨y,hgy,hg⟩:=hg;rw[Option.bind_eq_some_iff] at hg;obtain⟨⟨b4,b5,b6,b7⟩,ha,hg⟩:=hg;injection hg with hg
  injection hg with _ hg
  injection hg with hg he
  injection hg with b8 b9 d6
  simp only at b8 b9 d6 he;subst b8 b9 d6 he;refine(Hzz.calls k cp gt gm A c l mf mc (j:Int) y b4 b5 b6 b7 W (blk_below ht hb) (blk_below hm hb) (Kd.C_below hC hb) (by omega) (by omega) hfn (fun W1 d7=>hy j y W1 hj hgy (below_then hb hb.size d7)) ha).mono ?_
  rintro e W' ⟨d8,d9,rfl,d7,e6,hb'⟩;obtain⟨a7,a8,rfl⟩:=Kd.R_slice d7;obtain⟨a9,c2,rfl⟩:=Kd.R_slice e6;refine⟨_,_,rfl,below_then hb hb.size hb',trivial,_,fun _=>⟨below_then hb hb.size hb',rfl⟩,fun k hk=>.inl hk,fun k hk=>Nat.lt_of_lt_of_le hk (Nat.le_trans hb.size hb'.size),FK_of_R d7 e6 (fun k hk _=>⟨hk,Nat.not_lt.2 (Nat.le_trans hb.size hk)⟩),Kept.of_below hb' _⟩
 ·rintro j s W ok ⟨hb,rfl⟩ k hk;exact Nat.lt_of_lt_of_le hk hb.size
 ·rintro j s W W' ok ⟨hb,rfl⟩ e7 hk;exact⟨⟨e7.os.trans hb.os,e7.tape.trans hb.tape,e7.output.trans hb.output,Nat.le_trans hb.size e7.size,fun k hk'=>(hk k hk').trans (hb.block k hk')⟩,rfl⟩
 ·rintro e w' ⟨v,rfl,hb,d7,e6⟩;refine⟨v,rfl,below_then hB hB.size hb,hb,fun hr=>(d7 hr).1,fun hr=>?_⟩
  obtain⟨ok,⟨_,rfl⟩,hN⟩:=e6 hr;exact Kd.N_mono (Kd.N_lower hN hB.size) (fun k hk=>⟨Nat.le_trans hB.size hk.1,hk.1⟩)
theorem Fzm.calls (k:Nat) (g:Nat→Option S33) (cp:Int) (A:Option Addr) (c:Nat) (l:List S33) (mf:Nat) (mc:Array Value) (a6:Int) (a7:List S33) (a8:Int) (w:World) (hC:Kd.C k33 w A l.length l) (hc:l.length≤c)
  (hfn:∃ fn,Try.prog.funcs[mf]?=some fn∧(fn.name == "runtime.NumGoroutine")=false∧fn.body.isSome=true)
  (hy:∀ (j:Nat) y W,j < l.length→g j=some y→bw w W→Calls Try.prog mf (#[.int .i64 (j:Int)] ++ mc) W fun e W'=>∃ a9 b4 b5 c2,e=.returned (.agg #[.bool y.f0,.slice a9 y.f1.length b4,.slice b5 y.f2.length c2])∧Below W.heap.size W W'∧y.f1.length≤b4∧(Kd.int .i64).C W' a9 y.f1.length y.f1∧y.f2.length≤c2∧(Kd.int .i64).C W' b5 y.f2.length y.f2)
  (h:Fzm.f k g cp l=some (a6,a7,a8)) :
  Calls Try.prog 44 #[.agg #[.int .i64 cp,.slice A l.length c],.func (.func mf) #[] mc] w fun e w'=>∃ v1_:Value,e=.returned (.tuple #[.agg #[.int .i64 a6,v1_],.int .i64 a8])∧Kd.N k33 33 w' w.heap.size (fun k_=>w.heap.size≤k_) v1_ a7∧bw w w':=by
 have hmf_:∀ (fn:Fn) (first cap:Array Value) (w:World),(Instr.makeFunc fn first cap).run Try.prog w=.ok (.func fn first cap) w:=fun _ _ _ _=>rfl
 unfold Fzm.f at h;by_cases hn:l.length≤1000
 ·rw[if_pos hn,Option.bind_eq_some_iff] at h;obtain⟨⟨u_,ys,b6⟩,hE,h⟩:=h;have HC:=aM hC;have HY:=aM hy;have HFN:=aM hfn;have HN:=aM hn;have HE:=aM hE;have H:=aM h;have HB:=aM (Below.refl w.heap.size w);clear hC hy hfn hn hE h;go_enter Try.func44,Try.ntmps44
  go_upto_region 2 with (first|((with_reducible refine gd 2 rfl ?_);refine bx #[.int .i64 cp,.slice A l.length c] 24 ?_;intro b7 hg b8 b9 hb;have G2:=gA w hg;replace HB:=bB hb;clear hb hg)|((with_reducible refine gd 3 rfl ?_);refine bx #[.func (.func mf) #[] mc] 50 ?_;intro d6 hg d7 d8 hb;have G3:=gA w hg;replace b9:=kb b9 hb;replace HB:=bB hb;clear hb hg)|((with_reducible refine gd 4 rfl ?_);refine bx #[.int .i64 0,.slice none 0 0] 24 ?_;intro d9 hg e6 e7 hb;have G4:=gA w hg;have N24:=nl hg b9;have N42:=ng hg b9;replace b9:=kb b9 hb;replace d8:=kb d8 hb;replace HB:=bB hb;clear hb hg;obtain⟨e8,e9,f3,f4⟩:=bk2 b9)|((with_reducible refine gate_callee (f:=48) rfl ?_);refine goesL_ (some 13) rfl rfl Try.func48 (by kernel_rfl) rfl #[.agg #[.int .i64 cp,.slice A l.length c],.func (.func 76) #[] #[.pointer (some ⟨b7,0,none⟩),.pointer (some ⟨d6,0,none⟩)]] rfl (by first|exact mA|(simp [Act.eval];done)) ?_;refine(filled_each k g cp A c l mf mc b7 d6 ys b6 w e6 HB.out b9.out d8.out (Kd.C_below HC.out HB.out) HN.out HFN.out (fun j y W hj hg hb=>HY.out j y W hj hg (below_then HB.out HB.out.size hb)) HE.out).mono ?_;rintro e f5 ⟨f6,rfl,hb,f7,hv1,hv2⟩;refine⟨_,rfl,?_⟩;have f8:=aM hb;have HV1:=aM hv1;have HV2:=aM hv2;have L4:=aM (show ∀ k,e6.heap.size≤k→k≠d9 from fun k hk he=>absurd (blk_lt e7.out) (by rw[← he];exact Nat.not_lt.2 hk));replace b9:=aM (blk_below b9.out f7);replace e7:=aM (blk_below e7.out f7);clear hb f7 hv1 hv2 e8 e9 f3 f4))
  by_cases hr:b6=0
  ·subst hr;have h:=H.out;simp only[if_true] at h;rw[Option.bind_eq_some_iff] at h;obtain⟨f9,hck,h⟩:=h;have HV:=aM (Kd.N_mono (ok':=fun k=>w.heap.size≤k∧k≠d9) (HV2.out rfl) (fun k hk=>⟨hk.1,L4.out k hk.2⟩))
   clear H HV1 HV2 L4 HE HY HC HB d8;obtain⟨g4,c5,ev5⟩:=Kd.N_slice HV.out;subst ev5;have CK:=aM hck;have H:=aM h;clear hck h;obtain⟨e8,e9,f3,f4⟩:=bk2 b9;go_upto_region 5 with (first|((with_reducible refine gd 8 rfl ?_);refine bx #[.int .i64 0,.slice none 0 0] 24 ?_;intro g5 hg g6 g7 hb;have G8:=aM (show w.heap.size≤g5 by rw[hg];exact f8.out.size);have N84:=ng hg e7;have N48:=nl hg e7;replace HV:=aM (Kd.N_mono (ok':=fun k=>(w.heap.size≤k∧k≠d9)∧k≠g5) (Kd.N_below (Kd.N_bound HV.out) hb) (fun k hk=>⟨hk.1,fun he=>absurd hk.2 (by rw[he,hg];exact Nat.lt_irrefl _)⟩));replace e7:=aM (blk_below e7.out hb);have g8:=aM (below_then f8.out f8.out.size hb);clear hb hg e8 e9 f3 f4;obtain⟨e8,e9,f3,f4⟩:=bk2 g7))
   have g9:=aM (blk_put (blk_put g7.out 0 (.int .i64 cp) rfl) 1 (.slice g4 ys.length c5) rfl);have j3:=aM ((g8.out.setCell (p:=⟨g5,0,none⟩) G8.out (.int .i64 cp)).setCell (p:=⟨g5,1,none⟩) G8.out (.slice g4 ys.length c5));have HV':=aM (Kd.N_far (p:=⟨g5,1,none⟩) (Kd.N_far (p:=⟨g5,0,none⟩) HV.out (fun _ hk=>hk.2) (.int .i64 cp)) (fun _ hk=>hk.2) (.slice g4 ys.length c5))
   have j4:=aM (blk_far (p:=⟨g5,1,none⟩) (blk_far (p:=⟨g5,0,none⟩) e7.out N48.out (.int .i64 cp)) N48.out (.slice g4 ys.length c5));clear g7 g8 HV e7 e8 e9 f3 f4 f8;generalize ((g6.setCell { block:=g5,off:=0 } (Value.int IntKind.i64 cp)).setCell { block:=g5,off:=1 } (Value.slice g4 ys.length c5))=j5 at g9 j3 HV' j4 ⊢;obtain⟨e8,e9,f3,f4⟩:=bk2 g9;go_upto_region 6 with (first|((with_reducible refine gc 17 rfl ?_);refine gC 17 (some 25) Try.func17 #[.agg #[.int .i64 cp,.slice g4 ys.length c5]] ?_;refine(Azm.calls k cp g4 c5 ys f9 j5 (Kd.N_reads' HV'.out).2.2 (Kd.N_reads' HV'.out).2.1 CK.out).mono ?_;rintro e j6 ⟨rfl,hb⟩;refine⟨_,rfl,?_⟩;have j7:=aM (below_then j3.out j3.out.size hb);have HV10:=aM (Kd.N_below HV'.out hb);have j8:=aM (blk_below g9.out hb);have j9:=aM (blk_below j4.out hb);clear hb g9 j3 HV' j4 e8 e9 f3 f4))
   by_cases hr:f9=0
   ·subst hr;have h:=H.out;simp only[if_true] at h;injection h with h
    injection h with l5 h
    injection h with l6 l7
    subst l5 l6 l7;obtain⟨e8,e9,f3,f4⟩:=bk2 j8;obtain⟨hdz0,hdz1,hgz0,hgz1⟩:=bk2 j9;go_wp2
    refine rC d9 24 #[.int .i64 cp,.slice g4 ys.length c5] (blk_put (blk_put j9.out 0 (.int .i64 cp) rfl) 1 (.slice g4 ys.length c5) rfl) Try.underlying24 ?_
    exact⟨_,rfl,Kd.N_mono (Kd.N_far (p:=⟨d9,1,none⟩) (Kd.N_far (p:=⟨d9,0,none⟩) HV10.out (fun _ hk=>hk.1.2) (.int .i64 cp)) (fun _ hk=>hk.1.2) (.slice g4 ys.length c5)) (fun _ hk=>hk.1.1),(j7.out.setCell (p:=⟨d9,0,none⟩) G4.out _).setCell (p:=⟨d9,1,none⟩) G4.out _⟩
   ·have h:=H.out;simp only[if_neg hr] at h;injection h with h
    injection h with l5 h
    injection h with l6 l7
    subst l5 l6 l7;have l8:(f9 != 0)=true:=bne_iff_ne.mpr hr;obtain⟨e8,e9,f3,f4⟩:=bk2 j8;obtain⟨hdz0,hdz1,hgz0,hgz1⟩:=bk2 j9;go_wp2
    refine rC d9 24 #[.int .i64 0,.slice none 0 0] (blk_put (blk_put j9.out 0 (.int .i64 0) rfl) 1 (.slice none 0 0) rfl) Try.underlying24 ?_
    exact⟨_,rfl,Kd.N_nil _ _ _ _ _,(j7.out.setCell (p:=⟨d9,0,none⟩) G4.out _).setCell (p:=⟨d9,1,none⟩) G4.out _⟩
  ·have h:=H.out;simp only[if_neg hr] at h;injection h with h
   injection h with l5 h
   injection h with l6 l7
   subst l5 l6 l7;have l8:(b6 != 0)=true:=bne_iff_ne.mpr hr;obtain⟨e8,e9,f3,f4⟩:=bk2 e7;go_wp2
   refine rC d9 24 #[.int .i64 0,.slice none 0 0] (blk_put (blk_put e7.out 0 (.int .i64 0) rfl) 1 (.slice none 0 0) rfl) Try.underlying24 ?_
   exact⟨_,rfl,Kd.N_nil _ _ _ _ _,(f8.out.setCell (p:=⟨d9,0,none⟩) G4.out _).setCell (p:=⟨d9,1,none⟩) G4.out _⟩
 ·rw[if_neg hn] at h;cases h
def fill_g (k:Nat) (m:List Int) (j:Nat):Option S33:=(Fzp.f k (j:Int) [m]).bind fun b=>some (⟨b.1,b.2.1,b.2.2⟩:S33)
def Fzy.f (k:Nat) (cp:Int) (l:List S33) (m:List Int):Option (Int × List S33 × Int):=(Azm.f k cp l).bind fun e=>if e=0 then(Fzx.f k m (l.length:Int)).bind fun e2=>if e2=0 then Fzm.f k (fill_g k m) cp l else some (0,[],e2) else some (0,[],e)
theorem Fzy.calls (k:Nat) (cp:Int) (A:Option Addr) (c:Nat) (l:List S33) (a6:Option Addr) (a7:Nat) (m:List Int) (a8:Int) (a9:List S33) (b4:Int) (w:World) (hC:Kd.C k33 w A l.length l) (hc:l.length≤c) (hC1:cI w a6 m) (b5:m.length≤a7) (h:Fzy.f k cp l m=some (a8,a9,b4)) :
  Calls Try.prog 20 #[.agg #[.int .i64 cp,.slice A l.length c],.slice a6 m.length a7] w fun e w'=>∃ v1_:Value,e=.returned (.tuple #[.agg #[.int .i64 a8,v1_],.int .i64 b4])∧Kd.N k33 33 w' w.heap.size (fun k_=>w.heap.size≤k_) v1_ a9∧bw w w':=by
 have hmf_:∀ (fn:Fn) (first cap:Array Value) (w:World),(Instr.makeFunc fn first cap).run Try.prog w=.ok (.func fn first cap) w:=fun _ _ _ _=>rfl
 have zer:∀ (wz:World) (g:Nat) (tm:Array Value) (q:Int),w.heap.size≤g→bw w wz→wz.heap[g]?=some (.cells #[.int .i64 0,.slice none 0 0] 24 (0,0))→Below w.heap.size w ((wz.setCell ⟨g,0,none⟩ (.int .i64 0)).setCell ⟨g,1,none⟩ (.slice none 0 0))∧((wz.setCell ⟨g,0,none⟩ (.int .i64 0)).setCell ⟨g,1,none⟩ (.slice none 0 0)).heap[g]?=some (.cells #[.int .i64 0,.slice none 0 0] 24 (0,0)):=fun wz g tm q hg hb hk=>⟨(hb.setCell (p:=⟨g,0,none⟩) hg _).setCell (p:=⟨g,1,none⟩) hg _,blk_put (blk_put hk 0 (.int .i64 0) rfl) 1 (.slice none 0 0) rfl⟩
 unfold Fzy.f at h;rw[Option.bind_eq_some_iff] at h;obtain⟨b6,hck,h⟩:=h;have HC:=aM hC;have HL:=aM hc;have b7:=aM hC1;have b8:=aM b5;have CK:=aM hck;have H:=aM h;have HB:=aM (Below.refl w.heap.size w);clear hC hc hC1 b5 hck h;go_enter Try.func20,Try.ntmps20
 go_upto_region 2 with (first|((with_reducible refine gd 2 rfl ?_);refine bx #[.int .i64 cp,.slice A l.length c] 24 ?_;intro b9 hg d6 d7 hb;have G2:=gA w hg;replace HB:=bB hb;clear hb hg)|((with_reducible refine gd 3 rfl ?_);refine bx #[.slice a6 m.length a7] 30 ?_;intro d8 hg d9 e6 hb;have G3:=gA w hg;replace d7:=kb d7 hb;replace HB:=bB hb;clear hb hg)|((with_reducible refine gd 4 rfl ?_);refine bx #[.int .i64 0,.slice none 0 0] 24 ?_;intro e7 hg e8 e9 hb;have G4:=gA w hg;have N2_4:=nl hg d7;have N4_2:=ng hg d7;have N3_4:=nl hg e6;have N4_3:=ng hg e6;replace d7:=kb d7 hb;replace e6:=kb e6 hb;replace HB:=bB hb;clear hb hg;obtain⟨f3,f4,f5,f6⟩:=bk2 d7)|((with_reducible refine gate_callee (f:=17) rfl ?_);refine goesL_ (some 9) rfl rfl Try.func17 (by kernel_rfl) rfl #[.agg #[.int .i64 cp,.slice A l.length c]] rfl (by first|exact mA|(simp [Act.eval];done)) ?_;refine(Azm.calls k cp A c l b6 _ (Kd.C_below HC.out HB.out) HL.out CK.out).mono ?_;rintro e f7 ⟨rfl,hb⟩;refine⟨_,rfl,?_⟩;replace d7:=kb d7 hb;replace e6:=kb e6 hb;replace e9:=kb e9 hb;replace HB:=bB hb;clear hb f3 f4 f5 f6 CK))
 by_cases hr:b6=0
 ·subst hr;have h:=H.out;simp only[if_true] at h;rw[Option.bind_eq_some_iff] at h;obtain⟨f8,hfp,h⟩:=h;have FP:=aM hfp;replace H:=aM h;clear hfp h;obtain⟨f3,f4,f5,f6⟩:=bk2 d7;obtain⟨hdz0,hgz0⟩:=bk1 e6;go_upto_region 5 with (first|((with_reducible refine gate_callee (f:=43) rfl ?_);refine goesL_ (some 18) rfl rfl Try.func43 (by kernel_rfl) rfl #[.slice a6 m.length a7,.int .i64 (l.length:Int)] rfl (by first|exact mA|(simp [Act.eval];done)) ?_;refine(Fzx.calls k a6 a7 m (l.length:Int) f8 _ (Kd.C_below b7.out HB.out) b8.out FP.out).mono ?_;rintro e f9 ⟨rfl,hb⟩;refine⟨_,rfl,?_⟩;replace d7:=kb d7 hb;replace e6:=kb e6 hb;replace e9:=kb e9 hb;replace HB:=bB hb;clear hb f3 f4 f5 f6 hdz0 hgz0 FP))
  by_cases hr:f8=0
  ·subst hr;have h:=H.out;simp only[if_true] at h;replace H:=aM h;clear h;obtain⟨f3,f4,f5,f6⟩:=bk2 d7;obtain⟨hdz0,hgz0⟩:=bk1 e6;have hfn:∃ fn,Try.prog.funcs[45]?=some fn∧(fn.name == "runtime.NumGoroutine")=false∧fn.body.isSome=true:=⟨_,Try.func45,by kernel_rfl,rfl⟩
   have HFN:=aM hfn;clear hfn;have hy:∀ (W0:World),bw w W0→W0.heap[d8]?=some (.cells #[.slice a6 m.length a7] 30 (0,0))→∀ (j:Nat) y W,j < l.length→fill_g k m j=some y→Below W0.heap.size W0 W→Calls Try.prog 45 (#[.int .i64 (j:Int)] ++ #[.pointer (some ⟨d8,0,none⟩)]) W fun e W'=>∃ a6 a7 g4 c2,e=.returned (.agg #[.bool y.f0,.slice a6 y.f1.length a7,.slice g4 y.f2.length c2])∧Below W.heap.size W W'∧y.f1.length≤a7∧(Kd.int .i64).C W' a6 y.f1.length y.f1∧y.f2.length≤c2∧(Kd.int .i64).C W' g4 y.f2.length y.f2:=by
    intro W0 g5 hk0 j y W hj hg hb;unfold fill_g at hg;rw[Option.bind_eq_some_iff] at hg;obtain⟨⟨g6,g7,g8⟩,ha,hg⟩:=hg;injection hg with hg
    subst hg;refine(Fzp.calls k (j:Int) (some ⟨d8,0,none⟩) 1 [m] g6 g7 g8 W (Kd.cap_C (blk_below hk0 hb) ⟨a6,a7,rfl,b8.out,Kd.C_below b7.out (below_then g5 g5.size hb)⟩) (Nat.le_refl _) ha).mono ?_;rintro e W' ⟨g9,j3,rfl,j4,j5,hb'⟩;obtain⟨B1,d1,rfl⟩:=Kd.R_slice j4;obtain⟨B2,d2,rfl⟩:=Kd.R_slice j5;exact⟨B1,d1,B2,d2,rfl,hb',(Kd.R_reads' j4).2.1,(Kd.R_reads' j4).2.2,(Kd.R_reads' j5).2.1,(Kd.R_reads' j5).2.2⟩
   have HY:=aM hy;clear hy;go_wp2_with (first|((with_reducible refine gate_callee (f:=44) rfl ?_);refine goesL_ (some 25) rfl rfl Try.func44 (by kernel_rfl) rfl #[.agg #[.int .i64 cp,.slice A l.length c],.func (.func 45) #[] #[.pointer (some ⟨d8,0,none⟩)]] rfl (by first|exact mA|(simp [Act.eval];done)) ?_;have L4:=aM (Kd.freshB e9.out);refine(Fzm.calls k (fill_g k m) cp A c l 45 #[.pointer (some ⟨d8,0,none⟩)] a8 a9 b4 _ (Kd.C_below HC.out HB.out) HL.out HFN.out (HY.out _ HB.out e6.out) H.out).mono ?_;rintro e j6 ⟨j7,rfl,hv,hb⟩;refine⟨_,rfl,?_⟩;replace e9:=kb e9 hb;have HV:=aM (Kd.N_mono (ok':=fun k_=>w.heap.size≤k_∧k_≠e7) (Kd.N_lower hv HB.out.size) (fun k_ hk_=>⟨Nat.le_trans HB.out.size hk_,L4.out k_ hk_⟩));replace HB:=bB hb;clear hb hv f3 f4 f5 f6 hdz0 hgz0;obtain⟨j8,c5,ev⟩:=Kd.N_slice HV.out;subst ev;obtain⟨hdz0,hdz1,hgz0,hgz1⟩:=bk2 e9))
   refine rC e7 24 #[.int .i64 a8,.slice j8 a9.length c5] (blk_put (blk_put e9.out 0 (.int .i64 a8) rfl) 1 (.slice j8 a9.length c5) rfl) Try.underlying24 ?_
   exact⟨_,rfl,Kd.N_mono (Kd.N_far (p:=⟨e7,1,none⟩) (Kd.N_far (p:=⟨e7,0,none⟩) HV.out (fun _ hk=>hk.2) (.int .i64 a8)) (fun _ hk=>hk.2) (.slice j8 a9.length c5)) (fun _ hk=>hk.1),(HB.out.setCell (p:=⟨e7,0,none⟩) G4.out _).setCell (p:=⟨e7,1,none⟩) G4.out _⟩
  ·have h:=H.out;simp only[if_neg hr] at h;injection h with h
   injection h with j4 h
   injection h with j5 j9
   subst j4 j5 j9;have l5:(f8 != 0)=true:=bne_iff_ne.mpr hr;obtain⟨hdz0,hdz1,hgz0,hgz1⟩:=bk2 e9;go_wp2
   obtain⟨zb,zk⟩:=zer _ e7 #[] 0 G4.out HB.out e9.out;refine rC e7 24 #[.int .i64 0,.slice none 0 0] zk Try.underlying24 ?_
   exact⟨_,rfl,Kd.N_nil _ _ _ _ _,zb⟩
 ·have h:=H.out;simp only[if_neg hr] at h;injection h with h
  injection h with j4 h
  injection h with j5 j9
  subst j4 j5 j9;have l5:(b6 != 0)=true:=bne_iff_ne.mpr hr;obtain⟨hdz0,hdz1,hgz0,hgz1⟩:=bk2 e9;go_wp2
  obtain⟨zb,zk⟩:=zer _ e7 #[] 0 G4.out HB.out e9.out;refine rC e7 24 #[.int .i64 0,.slice none 0 0] zk Try.underlying24 ?_
  exact⟨_,rfl,Kd.N_nil _ _ _ _ _,zb⟩
theorem filled_g_mono (k:Nat) (g g':Nat→Option S33) (hg:∀ j,LeO (g j) (g' j)) (l:List S33) (j:Nat) (s:Unit):LeO (filled_g k g l j s) (filled_g (k+1) g' l j s):=LeO.bind (hg j) (fun y=>LeO.bind (Ezf.mono _ _ _ _ _ _ k) (fun _=>LeO.refl _))
theorem tank_filled_mono (k:Nat) (g g':Nat→Option S33) (hg:∀ j,LeO (g j) (g' j)) (cp:Int) (l:List S33):LeO (Fzm.f k g cp l) (Fzm.f (k+1) g' cp l):=by
 unfold Fzm.f;exact LeO.ite (LeO.bind (eachL_mono (fun j s=>filled_g_mono k g g' hg l j s) _ _ _ _) (fun x=>LeO.ite (LeO.bind (Azm.mono _ _ k) (fun _=>LeO.refl _)) (LeO.refl _))) (LeO.refl _)
theorem Fzy.mono:∀ a6 a7 a8 k,LeO (Fzy.f k a6 a7 a8) (Fzy.f (k+1) a6 a7 a8):=by
 intro a6 a7 a8 k;unfold Fzy.f;exact LeO.bind (Azm.mono _ _ k) (fun _=>LeO.ite (LeO.bind (Fzx.mono _ _ k) (fun _=>LeO.ite (tank_filled_mono k _ _ (fun j=>LeO.bind (Fzp.mono _ _ k) (fun _=>LeO.refl _)) _ _) (LeO.refl _))) (LeO.refl _))


def Ezw.f (k:Nat) (a0_0:Int) (l0_1:List (S33)):Option (Bool × List Int × List Int × Int):=(Azm.f k a0_0 l0_1).bind fun t432=>(if t432=0 then((Dzf.f k l0_1).bind fun bt433=>(some (bt433.1,bt433.2.1,bt433.2.2.1,bt433.2.2.2))) else(some (false,([]:List Int),([]:List Int),t432)))
theorem Ezw.mono:∀ a6 a7 k,LeO (Ezw.f k a6 a7) (Ezw.f (k+1) a6 a7):=by
 intro a6 a7 k;unfold Ezw.f;have i0:=@Dzf.mono;have i1:=@Azm.mono;exact mM
theorem Ezw.calls (k:Nat) (a6:Int) (a7:Option Addr) (a8:Nat) (a9:List (S33)) (b4:Bool) (b5:List Int) (b6:List Int) (b7:Int) (w:World) (b8:Kd.C k33 w a7 a9.length a9) (b9:a9.length≤a8) (h:Ezw.f k a6 a9=some (b4,b5,b6,b7)) :
  Calls Try.prog 14 #[.agg #[.int .i64 a6,.slice a7 a9.length a8]] w fun e w'=>∃ v1_ v2_:Value,e=.returned (.tuple #[.agg #[.bool b4,v1_,v2_],.int .i64 b7])∧rI w' w (oV v2_) v1_ b5∧rI w' w (oV v1_) v2_ b6∧bw w w':=by
 have hu24:=Try.underlying24;have hu33:=Try.underlying33;have d6:=aM b8;have d7:=aM b9;clear b8 b9;have HB:=aM (Below.refl w.heap.size w);have H:((Azm.f k a6 a9).bind fun d8=>(if d8=0 then((Dzf.f k a9).bind fun d9=>(some (d9.1,d9.2.1,d9.2.2.1,d9.2.2.2))) else(some (false,([]:List Int),([]:List Int),d8))))=some (b4,b5,b6,b7):=h
 clear h;obtain⟨d8,e6,H⟩:=bT H;(try dsimp only at H);have e7:=aM H;clear H;go_enter Try.func14,Try.ntmps14
 go_upto_if 8 with (first|((with_reducible refine gd 1 rfl ?_);refine bx #[.int .i64 a6,.slice a7 a9.length a8] 24 ?_;intro e8 hg e9 f3 hb;have f4:=gA w hg;replace HB:=bB hb;clear hb hg)|((with_reducible refine gd 2 rfl ?_);refine bz 33 ?_;intro f6 hg f7 f8 hb;have f9:=gA w hg;have g5:=nl hg f3;have g6:=ng hg f3;replace f3:=kb f3 hb;replace HB:=bB hb;clear hb hg;have g7:=g5.out;have g8:=g6.out;obtain⟨g9,j3,j4,j5⟩:=bk2 f3)|((with_reducible refine gc 17 rfl ?_);refine gC 17 (some 6) Try.func17 #[.agg #[.int .i64 a6,.slice a7 a9.length a8]] ?_;(with_reducible refine(Azm.calls k a6 _ _ a9 d8 _ ?_ ?_ e6.out).mono ?_);exact cB d6;exact d7.out;rintro e j6 ⟨rfl,hb⟩;refine⟨_,rfl,?_⟩;replace f3:=kb f3 hb;replace f8:=kb f8 hb;replace HB:=bB hb;clear hb))
 have H:=e7.out;clear e7;replace H:=iE H;rcases H with⟨j7,j8,H⟩|⟨c9,j7,j8,H⟩
 ·(first|rw[j7]|(simp only[i64_w,i32_w];rw[j7])|skip)
  replace H:=bS H;obtain⟨⟨j9,l5,l6,l7⟩,l8,H⟩:=H;replace H:(some (j9,l5,l6,l7))=some (b4,b5,b6,b7):=H;have l9:=aM l8;clear l8;obtain⟨rfl,rfl,rfl,rfl⟩:=q4 H;have m0:=g5.out;have m4:=g6.out;obtain⟨m5,m6,m7,m8⟩:=bk2 f3;go_wp2_with (first|((with_reducible refine gc 36 rfl ?_);refine gC 36 (some 13) Try.func36 #[.slice a7 a9.length a8] ?_;(with_reducible refine(Dzf.calls k _ _ a9 j9 l5 l6 l7 _ ?_ ?_ l9.out).mono ?_);exact cB d6;exact d7.out;rintro e m9 ⟨n0,n7,rfl,n8,n9,hb⟩;refine⟨_,rfl,?_⟩;have o0:=rL n8;have o8:=rL n9;replace f3:=kb f3 hb;replace f8:=kb f8 hb;replace HB:=bB hb;clear hb n8 n9;obtain⟨o9,p0,p4,p7,p9,r5⟩:=bk3 f8;obtain⟨r6,r7,rfl⟩:=Kd.R_slice o0.out;obtain⟨r8,r9,rfl⟩:=Kd.R_slice o8.out))
  refine rC f6 33 #[.bool j9,.slice r6 l5.length r7,.slice r8 l6.length r9] (kQ f8) Try.underlying33 ?_
  exact⟨_,_,eW,by exact Kd.R_mono (rT o0 f8) (fun _ hk=>hk),by exact Kd.R_mono (rT o8 f8) (fun _ hk=>hk),pB⟩
 ·(first|rw[j7]|(simp only[i64_w,i32_w];rw[j7])|skip)
  obtain⟨rfl,rfl,rfl,rfl⟩:=q4 H;have t4:=g6.out;have t5:=g5.out;obtain⟨t6,t7,t8,t9,y9,z3⟩:=bk3 f8;go_wp2
  refine rC f6 33 #[.bool false,.slice none 0 0,.slice none 0 0] (kQ f8) Try.underlying33 ?_
  exact⟨_,_,eW,nK,nK,pB⟩

def Gzq.f (k:Nat) (l0:List Int):Option (Int × Int):=(Azw.f k l0).bind fun t441=>(if t441=true then(if(l0.length:Int) > 2 then(some (0,2)) else((Czb.f k l0).bind fun t442=>(if t442 > 1125899906842624 then(some (0,2)) else((Czb.f k l0).bind fun t443=>(some (t443,0)))))) else(some (0,3)))
theorem Gzq.mono:∀ a6 k,LeO (Gzq.f k a6) (Gzq.f (k+1) a6):=by
 intro a6 k;unfold Gzq.f;have i0:=@Azw.mono;have i1:=@Czb.mono;exact mM
theorem Gzq.calls (k:Nat) (a6:Option Addr) (a7:Nat) (l0:List Int) (a8:Int) (a9:Int) (w:World) (b4:cI w a6 l0) (b5:l0.length≤a7) (h:Gzq.f k l0=some (a8,a9)) :
  Calls Try.prog 103 #[.slice a6 l0.length a7] w fun e w'=>e=.returned (.tuple #[.int .i64 a8,.int .i64 a9])∧Drawn0 w w':=by
 have b6:=aM b4;have b7:=aM b5;clear b4 b5;have H:((Azw.f k l0).bind fun b8=>(if b8=true then(if(l0.length:Int) > 2 then(some (0,2)) else((Czb.f k l0).bind fun b9=>(if b9 > 1125899906842624 then(some (0,2)) else((Czb.f k l0).bind fun d6=>(some (d6,0)))))) else(some (0,3))))=some (a8,a9):=h
 clear h;obtain⟨b8,d7,H⟩:=bT H;(try dsimp only at H);have d8:=aM H;clear H;go_enter Try.func103,Try.ntmps103
 go_upto_if 6 with (first|((with_reducible refine gc 65 rfl ?_);refine gC 65 (some 5) Try.func65 #[.slice a6 l0.length a7] ?_;(with_reducible refine(Azw.calls k _ _ l0 b8 _ ?_ ?_ d7.out).mono ?_);exact cX b6.out;exact b7.out;rintro e w' ⟨rfl,⟨nd,rfl⟩⟩;refine⟨_,rfl,?_⟩))
 have H:=d8.out;clear d8;by_cases c4:b8=true
 ·subst c4;rw[if_pos rfl] at H;by_cases c5:(l0.length:Int) > 2
  ·rw[if_pos c5] at H;have d9:decide (2 < (l0.length:Int))=true:=dE c5;have e6:decide (2 < l0.length)=true:=dE (by omega)
   clear c5;(first|rw[d9]|(simp only[i64_w,i32_w];rw[d9])|skip)
   obtain⟨rfl,rfl⟩:=q2 H;go_wp2
   go_ret2
   exact⟨sD,dR⟩
  ·rw[if_neg c5] at H;have d9:decide (2 < (l0.length:Int))=false:=decide_eq_false c5;have e6:decide (2 < l0.length)=false:=decide_eq_false (by omega)
   clear c5;(first|rw[d9]|(simp only[i64_w,i32_w];rw[d9])|skip)
   obtain⟨b9,e7,H⟩:=bT H;(try dsimp only at H);have e8:=aM H;clear H;go_upto_if 14 with (first|(go_at_call 94;(with_reducible refine(Czb.calls k _ _ l0 b9 _ ?_ ?_ e7.out).mono ?_);exact cX b6.out;exact b7.out;rintro e w' ⟨rfl,⟨nd,rfl⟩⟩))
   have H:=e8.out;clear e8;by_cases c8:b9 > 1125899906842624
   ·rw[if_pos c8] at H;have e9:decide (1125899906842624 < b9)=true:=dE c8;clear c8;(first|rw[e9]|(simp only[i64_w,i32_w];rw[e9])|skip)
    obtain⟨rfl,rfl⟩:=q2 H;go_wp2
    go_ret2
    exact⟨sD,dR⟩
   ·rw[if_neg c8] at H;have e9:decide (1125899906842624 < b9)=false:=decide_eq_false c8;clear c8;(first|rw[e9]|(simp only[i64_w,i32_w];rw[e9])|skip)
    replace H:=bS H;obtain⟨d6,f3,H⟩:=H;replace H:(some (d6,0))=some (a8,a9):=H;have f4:=aM f3;clear f3;obtain⟨rfl,rfl⟩:=q2 H;go_wp2_with (first|((with_reducible refine gc 94 rfl ?_);refine gC 94 (some 16) Try.func94 #[.slice a6 l0.length a7] ?_;(with_reducible refine(Czb.calls k _ _ l0 d6 _ ?_ ?_ f4.out).mono ?_);exact cX b6.out;exact b7.out;rintro e w' ⟨rfl,⟨nd,rfl⟩⟩;refine⟨_,rfl,?_⟩))
    go_ret2
    exact⟨sD,dR⟩
 ·obtain rfl:=bN c4;rw[if_neg nF] at H
  obtain⟨rfl,rfl⟩:=q2 H;go_wp2
  go_ret2
  exact⟨sD,dR⟩


mutual
def Dzz.j0:Nat→Int→Bool→Bool→List Int→List Int→Option (Int × Int)
 | 0,_,_,_,_,_=>none
 | k+1,x9,x37,x445000,x445001,x445002=>if x37=true then(Dzz.j1 k (wrap64 (x9+1)) x445000 x445001 x445002) else(Dzz.j1 k x9 x445000 x445001 x445002)
def Dzz.j1:Nat→Int→Bool→List Int→List Int→Option (Int × Int)
 | 0,_,_,_,_=>none
 | k+1,x9,x445000,x445001,x445002=>if x9 > 1125899906842624 then(some (0,2)) else(if x445000=true then(some (wrap64 (-x9),0)) else(some (x9,0)))
end
def Dzz.f (k:Nat) (a0_0:Bool) (l0_1:List Int) (l0_2:List Int) (a1:Bool):Option (Int × Int):=(Ezj.f k a0_0 l0_1 l0_2).bind fun t445=>(if t445=true then((Czp.f k l0_1 l0_2).bind fun bt446=>(if bt446.2.2=0 then((Gzq.f k bt446.1).bind fun bt453=>(if bt453.2=0 then(if(bt446.2.1.length:Int) > 0 then(Dzz.j0 k bt453.1 a1 a0_0 l0_1 l0_2) else(Dzz.j0 k bt453.1 false a0_0 l0_1 l0_2)) else(some (0,2)))) else(some (0,bt446.2.2)))) else(some (0,3)))
theorem Dzz.mono_l:∀ k,(∀ a6 a7 a8 a9 b4,LeO (Dzz.j0 k a6 a7 a8 a9 b4) (Dzz.j0 (k+1) a6 a7 a8 a9 b4))∧(∀ a6 a7 a8 a9,LeO (Dzz.j1 k a6 a7 a8 a9) (Dzz.j1 (k+1) a6 a7 a8 a9))
 | 0=>⟨fun _ _ _ _ _ r h=>by simp [Dzz.j0] at h,fun _ _ _ _ r h=>by simp [Dzz.j1] at h⟩
 | k+1=>by
  obtain⟨ih0,ih1⟩:=Dzz.mono_l k;have i0:=@Czp.mono;have i1:=@Gzq.mono;have i2:=@Ezj.mono;refine⟨?_,?_⟩
  ·intro a6 a7 a8 a9 b4;unfold Dzz.j0;exact mM
  ·intro a6 a7 a8 a9;unfold Dzz.j1;exact mM
theorem Dzz.mono:∀ a6 a7 a8 a9 k,LeO (Dzz.f k a6 a7 a8 a9) (Dzz.f (k+1) a6 a7 a8 a9):=by
 intro a6 a7 a8 a9 k;obtain⟨ih0,ih1⟩:=Dzz.mono_l k;unfold Dzz.f;have i0:=@Czp.mono;have i1:=@Gzq.mono;have i2:=@Ezj.mono;exact mM
theorem Dzz.calls (k:Nat) (a6:Bool) (a7:Option Addr) (a8:Nat) (a9:List Int) (b4:Option Addr) (b5:Nat) (b6:List Int) (b7:Bool) (b8:Int) (b9:Int) (w:World) (d6:cI w a7 a9) (d7:a9.length≤a8) (d8:cI w b4 b6) (d9:b6.length≤b5) (h:Dzz.f k a6 a9 b6 b7=some (b8,b9)) :
  Calls Try.prog 78 #[.agg #[.bool a6,.slice a7 a9.length a8,.slice b4 b6.length b5],.bool b7] w fun e w'=>e=.returned (.tuple #[.int .i64 b8,.int .i64 b9])∧bw w w':=by
 have hu33:=Try.underlying33;have e6:=aM d6;have e7:=aM d7;clear d6 d7;have e8:=aM d8;have e9:=aM d9;clear d8 d9;have HB:=aM (Below.refl w.heap.size w);have H:((Ezj.f k a6 a9 b6).bind fun f3=>(if f3=true then((Czp.f k a9 b6).bind fun f4=>(if f4.2.2=0 then((Gzq.f k f4.1).bind fun f5=>(if f5.2=0 then(if(f4.2.1.length:Int) > 0 then(Dzz.j0 k f5.1 b7 a6 a9 b6) else(Dzz.j0 k f5.1 false a6 a9 b6)) else(some (0,2)))) else(some (0,f4.2.2)))) else(some (0,3))))=some (b8,b9):=h
 clear h;obtain⟨f3,f6,H⟩:=bT H;(try dsimp only at H);have f7:=aM H;clear H;go_enter Try.func78,Try.ntmps78
 go_upto_if 12 with (first|((with_reducible refine gd 2 rfl ?_);refine bx #[.bool a6,.slice a7 a9.length a8,.slice b4 b6.length b5] 33 ?_;intro f8 hg f9 g4 hb;have g5:=gA w hg;replace HB:=bB hb;clear hb hg;obtain⟨g7,g8,g9,j3,j4,j5⟩:=bk3 g4)|((with_reducible refine gc 37 rfl ?_);refine gC 37 (some 11) Try.func37 #[.agg #[.bool a6,.slice a7 a9.length a8,.slice b4 b6.length b5]] ?_;(with_reducible refine(Ezj.calls k a6 _ _ a9 _ _ b6 f3 _ ?_ ?_ ?_ ?_ f6.out).mono ?_);exact cB e6;exact e7.out;exact cB e8;exact e9.out;rintro e j6 ⟨rfl,hb⟩;refine⟨_,rfl,?_⟩;replace g4:=kb g4 hb;replace HB:=bB hb;clear hb))
 have H:=f7.out;clear f7;by_cases c8:f3=true
 ·subst c8;rw[if_pos rfl] at H;obtain⟨⟨j7,j8,j9⟩,l5,H⟩:=bT H;(try dsimp only at H);replace H:=iE H;rcases H with⟨l6,l7,H⟩|⟨c10,l6,l7,H⟩
  ·(first|rw[l6]|(simp only[i64_w,i32_w];rw[l6])|skip)
   obtain⟨⟨l8,l9⟩,m0,H⟩:=bT H;(try dsimp only at H);have m4:=aM H;clear H;obtain⟨m5,m6,m7,m8,m9,n0⟩:=bk3 g4;go_upto_if 31 with (first|((with_reducible refine gc 102 rfl ?_);refine gC 102 (some 18) Try.func102 #[.slice a7 a9.length a8,.slice b4 b6.length b5] ?_;(with_reducible refine(Czp.calls k _ _ a9 _ _ b6 j7 j8 j9 _ ?_ ?_ ?_ ?_ l5.out).mono ?_);exact cB e6;exact e7.out;exact cB e8;exact e9.out;rintro e n7 ⟨n8,n9,rfl,o0,o8,hb⟩;refine⟨_,rfl,?_⟩;have o9:=rL o0;have p0:=rL o8;replace g4:=kb g4 hb;replace HB:=bB hb;clear hb o0 o8;obtain⟨p4,p7,rfl⟩:=Kd.R_slice o9.out)|((with_reducible refine gc 103 rfl ?_);refine gC 103 (some 27) Try.func103 #[.slice p4 j7.length p7] ?_;(with_reducible refine(Gzq.calls k _ _ j7 l8 l9 _ ?_ ?_ m0.out).mono ?_);exact cR o9;exact lR o9;rintro e w' ⟨rfl,⟨nd,rfl⟩⟩;refine⟨_,rfl,?_⟩))
   have H:=m4.out;clear m4;replace H:=iE H;rcases H with⟨r5,r6,H⟩|⟨p9,r5,r6,H⟩
   ·(first|rw[r5]|(simp only[i64_w,i32_w];rw[r5])|skip)
    have r7:=aM H;clear H;go_upto_region 9 with (fail)
    go_cut [37] (fun r8 wc=>∃ (kq:Nat) (r9:Bool),r8=.bool r9∧Aside0 (Dzz.j0 kq l8 r9 a6 a9 b6=some (b8,b9))∧Aside0 (kq≤k)∧Aside0 (wc.heap[f8]?=some (.cells #[.bool a6,(.slice a7 a9.length a8),(.slice b4 b6.length b5)] 33 (0,0)))∧Aside0 (bw w wc))
    case first =>
     have H:=r7.out;clear r7;by_cases t4:(j8.length:Int) > 0
     ·rw[if_pos t4] at H;have t5:decide (0 < (j8.length:Int))=true:=dE t4;have t6:decide (0 < j8.length)=true:=dE (by omega)
      clear t4;(first|rw[t5]|(simp only[i64_w,i32_w];rw[t5])|skip)
      have H':=aM H;clear H;obtain⟨t7,t8,rfl⟩:=Kd.R_slice p0.out;go_wp2
      go_meet
      case rel=>exact⟨_,(b7),sD,H',⟨by first|omega|exact Nat.le_refl _⟩,⟨by exact kW g4⟩,⟨pB⟩⟩
     ·rw[if_neg t4] at H;have t5:decide (0 < (j8.length:Int))=false:=decide_eq_false t4;have t6:decide (0 < j8.length)=false:=decide_eq_false (by omega)
      clear t4;(first|rw[t5]|(simp only[i64_w,i32_w];rw[t5])|skip)
      have H':=aM H;clear H;obtain⟨t9,y9,rfl⟩:=Kd.R_slice p0.out;go_wp2
      go_meet
      case rel=>exact⟨_,(false),sD,H',⟨by first|omega|exact Nat.le_refl _⟩,⟨by exact kW g4⟩,⟨pB⟩⟩
    case rest =>
     clear r7;try clear z3
     obtain⟨kq,r9,rfl,HA,z4,g4,HB⟩:=hcut;cases kq with
     | zero=>exact absurd HA.out (by simp [Dzz.j0])
     | succ z5 =>
      have H:=HA.out;clear HA;simp only[Dzz.j0] at H;have z6:=aM H;clear H;go_upto_if 37 with (fail)
      go_cut [9] (fun z7 wc=>∃ (kq:Nat) (z8:Int),z7=.int .i64 z8∧Aside0 (Dzz.j1 kq z8 a6 a9 b6=some (b8,b9))∧Aside0 (kq≤z5)∧Aside0 (wc.heap[f8]?=some (.cells #[.bool a6,(.slice a7 a9.length a8),(.slice b4 b6.length b5)] 33 (0,0)))∧Aside0 (bw w wc))
      case first =>
       have H:=z6.out;clear z6;by_cases z9:r9=true
       ·subst z9;rw[if_pos rfl] at H;have H':=aM H;clear H;go_wp2
        go_meet
        case rel=>exact⟨_,(wrap64 (l8+1)),sD,H',⟨by have:=z4.out;first|omega|exact Nat.le_refl _⟩,⟨by exact kW g4⟩,⟨pB⟩⟩
       ·obtain rfl:=bN z9;rw[if_neg nF] at H
        have H':=aM H;clear H;go_wp2
        go_meet
        case rel=>exact⟨_,(l8),sD,H',⟨by have:=z4.out;first|omega|exact Nat.le_refl _⟩,⟨by exact kW g4⟩,⟨pB⟩⟩
      case rest =>
       clear z6;try clear z3
       obtain⟨kq,z8,rfl,HA,B0,g4,HB⟩:=hcut;cases kq with
       | zero=>exact absurd HA.out (by simp [Dzz.j1])
       | succ B5 =>
        have H:=HA.out;clear HA;simp only[Dzz.j1] at H;by_cases B9:z8 > 1125899906842624
        ·rw[if_pos B9] at H;have C0:decide (1125899906842624 < z8)=true:=dE B9;clear B9;obtain⟨rfl,rfl⟩:=q2 H;go_wp2
         go_ret2
         exact⟨eW,pB⟩
        ·rw[if_neg B9] at H;have C0:decide (1125899906842624 < z8)=false:=decide_eq_false B9;clear B9;by_cases C1:a6=true
         ·subst C1;rw[if_pos rfl] at H;obtain⟨rfl,rfl⟩:=q2 H;obtain⟨C2,C3,C4,C6,C7,C8⟩:=bk3 g4;go_wp2
          go_ret2
          exact⟨eW,pB⟩
         ·obtain rfl:=bN C1;rw[if_neg nF] at H
          obtain⟨rfl,rfl⟩:=q2 H;obtain⟨C9,D2,D3,D4,D5,D6⟩:=bk3 g4;go_wp2
          go_ret2
          exact⟨eW,pB⟩
   ·(first|rw[r5]|(simp only[i64_w,i32_w];rw[r5])|skip)
    obtain⟨rfl,rfl⟩:=q2 H;go_wp2
    go_ret2
    exact⟨eW,pB⟩
  ·(first|rw[l6]|(simp only[i64_w,i32_w];rw[l6])|skip)
   obtain⟨rfl,rfl⟩:=q2 H;obtain⟨D7,D8,D9,E0,E1,E2⟩:=bk3 g4;go_wp2_with (first|((with_reducible refine gc 102 rfl ?_);refine gC 102 (some 18) Try.func102 #[.slice a7 a9.length a8,.slice b4 b6.length b5] ?_;(with_reducible refine(Czp.calls k _ _ a9 _ _ b6 j7 j8 j9 _ ?_ ?_ ?_ ?_ l5.out).mono ?_);exact cB e6;exact e7.out;exact cB e8;exact e9.out;rintro e E3 ⟨n8,n9,rfl,o0,o8,hb⟩;refine⟨_,rfl,?_⟩;have o9:=rL o0;have p0:=rL o8;replace g4:=kb g4 hb;replace HB:=bB hb;clear hb o0 o8))
   go_ret2
   exact⟨eW,pB⟩
 ·obtain rfl:=bN c8;rw[if_neg nF] at H
  obtain⟨rfl,rfl⟩:=q2 H;go_wp2
  go_ret2
  exact⟨eW,pB⟩

def Gzj.f (k:Nat) (a0_0:Bool) (l0_1:List Int) (l0_2:List Int):Option (Int × Int):=(Dzz.f k a0_0 l0_1 l0_2 a0_0).bind fun bt456=>(some (bt456.1,bt456.2))
theorem Gzj.mono:∀ a6 a7 a8 k,LeO (Gzj.f k a6 a7 a8) (Gzj.f (k+1) a6 a7 a8):=by
 intro a6 a7 a8 k;unfold Gzj.f;have i0:=@Dzz.mono;exact mM
theorem Gzj.calls (k:Nat) (a6:Bool) (a7:Option Addr) (a8:Nat) (a9:List Int) (b4:Option Addr) (b5:Nat) (b6:List Int) (b7:Int) (b8:Int) (w:World) (b9:cI w a7 a9) (d6:a9.length≤a8) (d7:cI w b4 b6) (d8:b6.length≤b5) (h:Gzj.f k a6 a9 b6=some (b7,b8)) :
  Calls Try.prog 47 #[.agg #[.bool a6,.slice a7 a9.length a8,.slice b4 b6.length b5]] w fun e w'=>e=.returned (.tuple #[.int .i64 b7,.int .i64 b8])∧bw w w':=by
 have hu33:=Try.underlying33;have d9:=aM b9;have e6:=aM d6;clear b9 d6;have e7:=aM d7;have e8:=aM d8;clear d7 d8;have HB:=aM (Below.refl w.heap.size w);have H:((Dzz.f k a6 a9 b6 a6).bind fun e9=>(some (e9.1,e9.2)))=some (b7,b8):=h
 clear h;replace H:=bS H;obtain⟨⟨f3,f4⟩,f5,H⟩:=H;replace H:(some (f3,f4))=some (b7,b8):=H;have f6:=aM f5;clear f5;obtain⟨rfl,rfl⟩:=q2 H;go_enter Try.func47,Try.ntmps47
 go_wp2_with (first|((with_reducible refine gd 1 rfl ?_);refine bx #[.bool a6,.slice a7 a9.length a8,.slice b4 b6.length b5] 33 ?_;intro f7 hg f8 f9 hb;have g4:=gA w hg;replace HB:=bB hb;clear hb hg;obtain⟨g6,g7,g8,g9,j3,j4⟩:=bk3 f9)|((with_reducible refine gc 78 rfl ?_);refine gC 78 (some 7) Try.func78 #[.agg #[.bool a6,.slice a7 a9.length a8,.slice b4 b6.length b5],.bool a6] ?_;(with_reducible refine(Dzz.calls k a6 _ _ a9 _ _ b6 a6 f3 f4 _ ?_ ?_ ?_ ?_ f6.out).mono ?_);exact cB d9;exact e6.out;exact cB e7;exact e8.out;rintro e j5 ⟨rfl,hb⟩;refine⟨_,rfl,?_⟩;replace f9:=kb f9 hb;replace HB:=bB hb;clear hb))
 go_ret2
 exact⟨eW,pB⟩


def Gzp.f (a0_0:Bool) (l0_1:List Int) (l0_2:List Int):Option (Bool × List Int × List Int):=if([]:List Int).length+l0_1.length < 17592186044416 then(if([]:List Int).length+l0_2.length < 17592186044416 then(some (a0_0,(([]:List Int) ++ l0_1),(([]:List Int) ++ l0_2))) else(none)) else(none)
theorem Gzp.calls (a6:Bool) (a7:Option Addr) (a8:Nat) (a9:List Int) (b4:Option Addr) (b5:Nat) (b6:List Int) (b7:Bool) (b8:List Int) (b9:List Int) (w:World) (d6:cI w a7 a9) (d7:a9.length≤a8) (d8:cI w b4 b6) (d9:b6.length≤b5) (h:Gzp.f a6 a9 b6=some (b7,b8,b9)) :
  Calls Try.prog 50 #[.agg #[.bool a6,.slice a7 a9.length a8,.slice b4 b6.length b5]] w fun e w'=>∃ v1_ v2_:Value,e=.returned (.agg #[.bool b7,v1_,v2_])∧rI w' w (oV v2_) v1_ b8∧rI w' w (oV v1_) v2_ b9∧bw w w':=by
 have hu33:=Try.underlying33;have e6:=aM d6;have e7:=aM d7;clear d6 d7;have e8:=aM d8;have e9:=aM d9;clear d8 d9;have HB:=aM (Below.refl w.heap.size w);have H:(if([]:List Int).length+a9.length < 17592186044416 then(if([]:List Int).length+b6.length < 17592186044416 then(some (a6,(([]:List Int) ++ a9),(([]:List Int) ++ b6))) else(none)) else(none))=some (b7,b8,b9):=h
 clear h;by_cases c2:([]:List Int).length+a9.length < 17592186044416
 ·rw[if_pos c2] at H;have LMc2:=aM c2;clear c2;obtain⟨f3,f4⟩:∃ y_:List Int,y_=(([]:List Int) ++ a9):=⟨_,rfl⟩;replace H:(if([]:List Int).length+b6.length < 17592186044416 then(some (a6,f3,(([]:List Int) ++ b6))) else(none))=some (b7,b8,b9):=yE f4 H
  have f5:=aM f4;clear f4;obtain⟨c3,H⟩:=iO H;have LMc3:=aM c3;clear c3;obtain⟨f6,f7⟩:∃ y_:List Int,y_=(([]:List Int) ++ b6):=⟨_,rfl⟩;replace H:(some (a6,f3,f6))=some (b7,b8,b9):=yE f7 H
  have f8:=aM f7;clear f7;obtain⟨rfl,rfl,rfl⟩:=q3 H;go_enter Try.func50,Try.ntmps50
  go_wp2_with (first|((with_reducible refine gd 1 rfl ?_);refine bx #[.bool a6,.slice a7 a9.length a8,.slice b4 b6.length b5] 33 ?_;intro f9 hg g4 g5 hb;have g6:=gA w hg;replace HB:=bB hb;clear hb hg)|((with_reducible refine gd 2 rfl ?_);refine bz 33 ?_;intro g8 hg g9 j3 hb;have j4:=gA w hg;have j6:=nl hg g5;have j7:=ng hg g5;replace g5:=kb g5 hb;replace HB:=bB hb;clear hb hg;have j8:=j6.out;have j9:=j7.out;obtain⟨l5,l6,l7,l8,l9,m0⟩:=bk3 g5)|((with_reducible refine gate_builtin (b:=.append) (xs:=#[.const (.slice none 0 0),.tmp 4]) rfl ?_);at_builtin;refine Kd.R_append_rows (Kd.int .i64) (w0:=w) w.heap.size rfl (.const (.slice none 0 0)) (.tmp 4) 31 3 (.int .i64 0) 8 rfl Try.underlying31 info3 rfl (by decide) (by omega) (.slice none 0 0) ([]:List Int) a9 _ _ _ (fun _=>True) (fun _=>False) rfl rfl ?aO ?aR (fun _ _ h=>h) (fun _ h=>h.elim) ?aF ?aB ?aS ?aL ?_;(case aR=>exact cB e6);(case aB=>exact pB);(case aF=>exact(fun _ _=>trivial));(case aO=>exact((Kd.R_nil _ _ _ _ (fun _=>True))));(case aS=>exact(below_size pB));(case aL=>have:=LMc2.out;omega);intro m4 m5 ho hb hg hat;rw[← f5.out] at ho;have m6:=aM (ho);replace g5:=aM (blk_grown (g:=f9) (o:=.cells #[.bool a6,.slice a7 a9.length a8,.slice b4 b6.length b5] 33 (0,0)) (kW g5) hg (by simp [Value.ownBlock]));replace j3:=aM (blk_grown (g:=g8) (o:=.cells #[.bool false,.slice none 0 0,.slice none 0 0] 33 (0,0)) (kW j3) hg (by simp [Value.ownBlock]));replace HB:=aM (hb);clear ho hb hg hat;obtain⟨m7,m8,rfl⟩:=Kd.R_slice m6.out;obtain⟨m9,n0,n7,n8,n9,o0⟩:=bk3 g5)|((with_reducible refine gate_builtin (b:=.append) (xs:=#[.const (.slice none 0 0),.tmp 8]) rfl ?_);at_builtin;refine Kd.R_append_rows (Kd.int .i64) (w0:=w) w.heap.size rfl (.const (.slice none 0 0)) (.tmp 8) 31 3 (.int .i64 0) 8 rfl Try.underlying31 info3 rfl (by decide) (by omega) (.slice none 0 0) ([]:List Int) b6 _ _ _ (fun k_=>oN m7 f3.length m8 k_) (fun _=>False) rfl rfl ?aO ?aR (fun _ _ h=>h) (fun _ h=>h.elim) ?aF ?aB ?aS ?aL ?_;(case aR=>exact Kd.C_below e8.out pB);(case aB=>exact pB);(case aF=>exact(fun k_ hk=>Kd.fresh' (Kd.R_lt (rT m6 g5)) k_ hk));(case aO=>exact((Kd.R_nil _ _ _ _ (fun k_=>oN m7 f3.length m8 k_))));(case aS=>exact(below_size pB));(case aL=>have:=LMc3.out;omega);intro o8 o9 ho hb hg hat;rw[← f8.out] at ho;have p0:=aM (ho);replace j3:=aM (blk_grown (g:=g8) (o:=.cells #[.bool false,.slice none 0 0,.slice none 0 0] 33 (0,0)) (kf j3 j7) hg (by simp [Value.ownBlock]));replace m6:=aM (Kd.R_after (Kd.R_apart_nil (rT m6 g5)) hg hat);replace g5:=aM (blk_grown (g:=f9) (o:=.cells #[.bool a6,.slice m7 f3.length m8,.slice b4 b6.length b5] 33 (0,0)) (kQ g5) hg (by simp [Value.ownBlock]));replace HB:=aM (hb);clear ho hb hg hat;obtain⟨p4,p7,rfl⟩:=Kd.R_slice p0.out;obtain⟨p9,r5,r6,r7,r8,r9⟩:=bk3 g5;obtain⟨t4,t5,t6,t7,t8,t9⟩:=bk3 j3))
  refine bodyPost_ret (results_cell_row rfl _ _ g8 33 #[.bool a6,.slice m7 f3.length m8,.slice p4 f6.length p7] (0,0) _ rfl (by refine bD ?_;refine blk_put (cs:=#[.bool a6,.slice m7 f3.length m8,.slice none 0 0]) ?_ 2 _ rfl;refine bD ?_;refine blk_put (cs:=#[.bool a6,.slice none 0 0,.slice none 0 0]) ?_ 1 _ rfl;refine bD ?_;refine blk_put (cs:=#[.bool false,.slice none 0 0,.slice none 0 0]) ?_ 0 _ rfl;refine bD ?_;refine blk_far ?_ j7.out _;(with_reducible repeat(first|refine blk_drewN ?_ _|refine blk_drew ?_|refine blk_alloc ?_ _));exact j3.out) Try.underlying33 rfl (by kernel_rfl)) rfl ?_
  exact⟨_,_,eW,by exact rX (Kd.R_mono (Kd.R_far (p:=⟨g8,2,none⟩) (Kd.R_far (p:=⟨g8,1,none⟩) (Kd.R_far (p:=⟨g8,0,none⟩) (Kd.R_far (p:=⟨f9,2,none⟩) (Kd.R_types (Kd.R_types m6.out g5.out (by decide)) j3.out (by decide)) (fun _ hk=>hk.1.2) (.slice p4 f6.length p7)) (fun _ hk=>hk.2) (.bool a6)) (fun _ hk=>hk.2) (.slice m7 f3.length m8)) (fun _ hk=>hk.2) (.slice p4 f6.length p7)) (fun _ hk=>hk.1.1.2)),by exact rX (Kd.R_mono (Kd.R_far (p:=⟨g8,2,none⟩) (Kd.R_far (p:=⟨g8,1,none⟩) (Kd.R_far (p:=⟨g8,0,none⟩) (Kd.R_far (p:=⟨f9,2,none⟩) (Kd.R_types (Kd.R_types p0.out g5.out (by decide)) j3.out (by decide)) (fun _ hk=>hk.1.2) (.slice p4 f6.length p7)) (fun _ hk=>hk.2) (.bool a6)) (fun _ hk=>hk.2) (.slice m7 f3.length m8)) (fun _ hk=>hk.2) (.slice p4 f6.length p7)) (fun _ hk=>hk.1.1)),pB⟩
 ·rw[if_neg c2] at H;exact absurd H (by simp)

end Go.Proofs.Ytbnpcplckcipfaa.Print
