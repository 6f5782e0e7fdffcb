import Derived.Test.YtbnpcplckcipfaaPrint0
import Derived.Test.YtbnpcplckcipfaaPrint24
import Derived.Test.YtbnpcplckcipfaaPrint27
namespace Go.Proofs.Ytbnpcplckcipfaa.Print
open Go.RowKit Go.Proofs.YtbnpcplckcipfaaW.PrintWords Go.Proofs.YtbnpcplckcipfaaW.PrintLast Go.Proofs.YtbnpcplckcipfaaW.PrintMore
attribute [local go_sem] dF dG eB eD dm dn dH dI
set_option linter.unusedVariables false
set_option maxRecDepth 100000
set_option maxHeartbeats 8000000
set_option linter.unusedSimpArgs false

theorem nBd {α:Type} {d:Kd α} {e base b:Nat} {w:World} {P:Nat→Prop} {v:Value} {xs:List α} (h:Kd.N d e w base (fun k=>b≤k∧P k) v xs):Kd.N d e w base (fun k=>P k∧b≤k∧True) v xs:=Kd.aG h (fun _ h=>⟨h.2,h.1,trivial⟩)
theorem nBe {α:Type} {d:Kd α} {e base b:Nat} {w:World} {v:Value} {xs:List α} (h:Kd.N d e w base (fun k=>b≤k) v xs):Kd.N d e w base (fun k=>True∧b≤k∧True) v xs:=Kd.aG h (fun _ h=>⟨trivial,h,trivial⟩)
theorem zM {P:Program} {ops:Array Oper} {Q:Exit→Act→World→Prop} {rest:List Oper} {o:Oper} {a:Act} {α:Type} (d:Kd α) {wo W:World} (base e:Nat) (hgd:o.guard=none) {N:Tmp} (hd:o.dst=some N) (t:TypeId) (x y:Operand) (ho:o.op=.makeSlice t x y) (n:Nat) (hx:a.eval x=.int .i64 0) (hy:a.eval y=.int .i64 (n:Int))
  (ht:P.underlying t=some (.slice e)) (z:Value) (bytes:Nat) (hinfo:(P.info? e).map (fun i=>(i.zero,i.size,i.bytes))=some (some z,d.sz,bytes)) (hz:z.cells.size=d.sz) (a6:0 < d.sz) (a7:0 < bytes)
  (z0:α) (hzero:d.M W base (fun _=>False) z0 z.cells.toList) {ok:Nat→Prop} (hfresh:ok W.heap.size) (hl:n * bytes≤281474976710656) (HB:Below base wo W) (hbase:base≤W.heap.size)
  (h:∀ a8 w1,Kd.N d e w1 base ok a8 []→Below base wo w1→W.grownBy w1 none→(∃ b,a8.ownBlock=some b∧W.heap.size≤b)→wpList P ops Q rest (a.put o.dst a8) w1):wpList P ops Q (o :: rest) a W:=by
 obtain⟨i0,hi,hzz⟩:=Option.map_eq_some_iff.1 hinfo;simp only[Prod.mk.injEq] at hzz;obtain⟨hz0,hz1,hz2⟩:=hzz;have hm:n≤281474976710656:=Nat.le_trans (Nat.le_mul_of_pos_right _ a7) hl;have hr:=run_make (P:=P) W t e i0 z ht hi hz0 .i64 .i64 0 (n:Int) (by omega) (by omega)
  (by
   have a9:((i0.bytes * n:Nat):Int)≤281474976710656:=by rw[hz2,Nat.mul_comm];omega
   rwa [Int.natCast_mul] at a9) (by omega)
 simp only[Int.toNat_natCast,Int.toNat_zero] at hr;rw[hz1] at hr;refine Kd.lw (v:=.slice (some ⟨W.heap.size,0,none⟩) 0 n) (w1:=W.alloc (.cells (madeCells z.cells (n * d.sz)) e)) hgd (by simp [execOp,ho,hx,hy,hr]) (h _ _ ?_ (HB.alloc hbase _) (World.grownBy_alloc W _ none) ⟨W.heap.size,by simp [Value.ownBlock],Nat.le_refl _⟩)
 have hrep:bR (d.M W base (fun _=>False)) d.sz (List.replicate n z0) (madeCells z.cells (n * d.sz)).toList:=Kd.qI hz a6 hzero n
 have hR:d.R e (W.alloc (.cells (madeCells z.cells (n * d.sz)) e)) base ok (.slice (some ⟨W.heap.size,0,none⟩) n n) (List.replicate n z0):=by
  refine⟨fun k hk=>?_,(madeCells z.cells (n * d.sz)).toList,?_,?_⟩
  ·have:W.heap.size=k:=by simpa [Value.ownBlock] using hk
   subst this;exact hfresh
  ·have b4:=World.ownsRow_lit (base:=base) (e:=e) (size:=d.sz) W (madeCells z.cells (n * d.sz)) n hbase (by simp [maxLen];omega) (by simpa using hrep.1)
   simpa using b4
  ·exact hrep.imp_ (fun p c hp=>d.M_mono (fun k hk=>hk.elim) (d.vL hp (dV (Below.refl _ _) _)))
 have:=Kd.mG (m:=0) hR (by simp)
 exact Kd.R_N (by simpa using this)
theorem zN {P:Program} {ops:Array Oper} {Q:Exit→Act→World→Prop} {rest:List Oper} {oi:Oper} {a:Act} {w:World} (N:Option Tmp) (hd:oi.dst=N) (hg:oi.guard=none) {f:FuncId} {caps:Array Value} {fn:Func} {c x:Operand} {ts:Array TypeId} (hf:P.funcs[f]?=some fn) (hname:(fn.name == "runtime.NumGoroutine")=false) (hb:fn.body.isSome=true)
  (hop:oi.op=.call { callee:=.value c,args:=#[x],argTypes:=ts }) (hc:a.eval c=.func (.func f) #[] caps)
  (h:Calls P f (#[a.eval x] ++ caps) w fun e w'=>∃ v,e=.returned v∧wpList P ops Q rest (a.put N v) w'):wpList P ops Q (oi :: rest) a w:=by
 refine wpList_plain hg fun K hK=>?_
 have he:=mZ hf hname hb (#[a.eval x] ++ caps) w;have hrun:(execOp a.eval oi).run P w=.ok (.enter f (#[a.eval x] ++ caps)) w:=by
  unfold execOp;simp [hop,resolve,hc,Deferred.ofValue,invoke] at he ⊢;simp [he]
 unfold Oper.wp;rw[hrun,Oper.upon_enter];refine h.mono fun e w'' hh=>?_
 obtain⟨v,rfl,hk⟩:=hh;subst hd;exact hK _ _ hk
/-- What 'each' asks of the function that it calls. -/
structure EJ (ff:Nat) (fc:Array Value) (n:Nat) (w0:World) (I:Nat→List S33→World→(Nat→Prop)→Prop) (Q:Int→World→Prop):Prop where
 fn:∃ fn,Try.prog.funcs[ff]?=some fn∧(fn.name == "runtime.NumGoroutine")=false∧fn.body.isSome=true
 step:∀ (j:Nat) xs W ok,j < n→I j xs W ok→bw w0 W→Calls Try.prog ff (#[.int .i64 (j:Int)] ++ fc) W fun e W'=>∃ (b:Bool) (v1 v2:Value) (p q:List Int) (r:Int),e=.returned (.tuple #[.agg #[.bool b,v1,v2],.int .i64 r])∧bw w0 W'∧(r≠0→Q r W')∧(∃ ok':Nat→Prop,(r=0→I (j+1) (xs ++ [(⟨b,p,q⟩:S33)]) W' ok')∧(∀ k,ok' k→ok k∨W.heap.size≤k)∧(∀ k,ok' k→k < W'.heap.size)∧Kd.FK k33 W' (fun k=>W.heap.size≤k∧¬ ok' k) (⟨b,p,q⟩:S33) [.bool b,v1,v2]∧Kept W W' ok)
 lt:∀ j xs W ok,I j xs W ok→∀ k,ok k→k < W.heap.size
 frame:∀ j xs W W' ok,I j xs W ok→Below 0 W W'→(∀ k,ok k→W'.heap[k]?=W.heap[k]?)→I j xs W' ok
 err:∀ r W W',Q r W→Below W.heap.size W W'→Q r W'
theorem nk {w a6:World} {row:Option Nat} (h:w.grownBy a6 row):Below 0 w a6:=⟨h.os,h.tape,h.output,h.size,fun k hk=>absurd hk (Nat.not_lt_zero _)⟩
theorem Izq.calls (cp:Int) (A:Option Addr) (n c:Nat) (ff:Nat) (fc:Array Value) (w0 w:World) (I:Nat→List S33→World→(Nat→Prop)→Prop) (Q:Int→World→Prop) (ok0:Nat→Prop) (hS:EJ ff fc n w0 I Q) (a6:I 0 [] w ok0) (hB:bw w0 w) (hn:n≤1000) :
  Calls Try.prog 48 #[.agg #[.int .i64 cp,.slice A n c],.func (.func ff) #[] fc] w fun e w'=>∃ (v:Value) (r:Int),e=.returned (.tuple #[v,.int .i64 r])∧bw w0 w'∧(r≠0→v=.slice none 0 0∧Q r w')∧(r=0→∃ xs ok,I n xs w' ok∧Kd.N k33 33 w' w0.heap.size (fun k=>w0.heap.size≤k∧¬ ok k) v xs):=by
 have HS:=aM hS;have H0:=aM a6;have HB:=aM hB;have HN:=aM hn;clear hS a6 hB hn;go_enter Try.func48,Try.ntmps48
 go_upto_region 1 with (first|((with_reducible refine gd 2 rfl ?_);refine bx #[.int .i64 cp,.slice A n c] 24 ?_;intro a7 hg w1 a8 hb;have a9:=aM hb;have G0:=aM (show w.heap.size≤a7 by rw[hg];exact Nat.le_refl _);clear hb hg))
 have BW1:=aM (HB.out.trans (a9.out.mono HB.out.size));have hn2_:=HN.out;have I1:=aM (HS.out.frame 0 [] w w1 ok0 H0.out (a9.out.mono (Nat.zero_le _)) (fun k hk=>a9.out.block k (HS.out.lt _ _ _ _ H0.out k hk)))
 have L1:=aM (HS.out.lt _ _ _ _ H0.out);have F1:=aM (show w0.heap.size≤w1.heap.size∧¬ ok0 w1.heap.size from⟨BW1.out.size,fun hk=>absurd (L1.out _ hk) (Nat.not_lt.2 a9.out.size)⟩)
 clear H0;obtain⟨b4,b5,b6,b7⟩:=bk2 a8;go_upto_region 2 with (first|((with_reducible refine dY (N:=13) rfl ?_);refine zM k33 (wo:=w0) w0.heap.size 33 rfl (N:=13) rfl 22 _ _ rfl n rfl rfl Try.underlying22 _ 56 pq rfl (by decide) (by decide) z33 ?hzero (ok:=fun k=>w0.heap.size≤k∧¬ ok0 k) ?hfresh (by omega) BW1.out BW1.out.size ?_;(case hzero=>exact⟨_,_,rfl,rfl,_,_,rfl,⟨_,rfl,Kd.iX _ _ _ _ _⟩,⟨_,rfl,Kd.iX _ _ _ _ _⟩⟩);(case hfresh=>exact F1.out);intro b8 b9 hN2 d6 hg2 hat2;have HN2:=aM hN2;have d7:=aM d6;have d8:=aM hg2;clear hN2 d6 hg2 hat2))
 have I2:=aM (HS.out.frame 0 [] w1 b9 ok0 I1.out (nk d8.out) (fun k hk=>d8.out.block k (Nat.lt_of_lt_of_le (L1.out k hk) a9.out.size) (by simp)))
 obtain⟨d9⟩:ae (b9.heap[a7]?=some (.cells #[.int .i64 cp,.slice A n c] 24 (0,0))):=⟨(d8.out.block a7 (aV a8.out) (by simp)).trans a8.out⟩
 have d9:=aM d9;clear b4 b5 b6 b7 a8 a9 BW1 I1 F1 d8 HB;obtain⟨b4,b5,b6,b7⟩:=bk2 d9;go_wp2
 go_loopg [6,17] (n+1) (fun kq e6 e7 w'=>∃ (j:Nat) (xs:List S33) (okj:Nat→Prop),e7=.int .i64 (j:Int)∧ae (j+kq=n+1∧0 < kq)∧ae (xs.length=j)∧ae (I j xs w' okj)∧ae (Kd.N k33 33 w' w0.heap.size (fun k=>w0.heap.size≤k∧¬ okj k) e6 xs)∧ae (bw w0 w'))
 case atStart=>exact⟨0,[],ok0,rfl,⟨by omega,by omega⟩,⟨rfl⟩,I2,HN2,d7⟩
 case round =>
  clear b4 b5 b6 b7 d9 I2 HN2 d7;obtain⟨j_,xs_,okj,rfl,HJ,HX,HI,HO,HB⟩:=hrel;cases gk with
  | zero=>exact absurd HJ.out.2 (by omega)
  | succ k1 =>
   by_cases c5:(j_:Int) < (n:Int)
   ·have f6:=dE c5;have f7:decide (j_ < n)=true:=dE (by omega)
    have f8:=aM c5;clear c5;obtain⟨fn_,hf_,hn_,hb_⟩:=HS.out.fn;have HF:=aM hf_;have HNM:=aM hn_;have HBD:=aM hb_;have HC:=aM (HS.out.step j_ xs_ wr okj (by have:=f8.out;omega) HI.out HB.out)
    have HLJ:=aM (HS.out.lt _ _ _ _ HI.out);clear hf_ hn_ hb_ HI;go_upto_region 6 with (first|(refine zN (some 23) rfl rfl (f:=ff) (caps:=fc) HF.out HNM.out HBD.out rfl (by first|rfl|(simp [Act.eval];done)) ?_;refine HC.out.mono ?_;rintro e g5 ⟨b_,v1_,v2_,p_,q_,r_,rfl,g8,g9,ok9,j3,j4,j5,j6,hk9⟩;refine⟨_,rfl,?_⟩;have j7:=aM g8;have j8:=aM g9;have j9:=aM j3;have HS9:=aM j4;have l5:=aM j5;have l6:=aM hk9;obtain⟨l7,c1_,l8,c2_,he_,_,_,_,_⟩:=kN (Kd.mJ j6);injection he_ with he_ he2_;injection he2_ with he2_ he3_;injection he3_ with he3_ _;subst he2_ he3_;have l9:=aM j6;clear g8 g9 j3 j4 j5 j6 hk9 he_ HC HF HNM HBD)|((with_reducible refine gd 8 rfl ?_);refine bz 33 ?_;intro m0 hg wb m4 hb;have m5:=aM hb;have G8:=aM (show g5.heap.size≤m0 by rw[hg];exact Nat.le_refl _);clear hb hg;obtain⟨m6,m7,m8,m9,n0,n7⟩:=bk3 m4))
    have BK:=aM (au (au (au m4.out 0 (.bool b_) rfl) 1 (.slice l7 p_.length c1_) rfl) 2 (.slice l8 q_.length c2_) rfl);have HWW:=aM (((m5.out.setCell (p:=⟨m0,0,none⟩) G8.out (.bool b_)).setCell (p:=⟨m0,1,none⟩) G8.out (.slice l7 p_.length c1_)).setCell (p:=⟨m0,2,none⟩) G8.out (.slice l8 q_.length c2_));clear m6 m7 m8 m9 n0 n7 m5 m4;generalize (((wb.setCell { block:=m0,off:=0 } (Value.bool b_)).setCell { block:=m0,off:=1 } (Value.slice l7 p_.length c1_)).setCell { block:=m0,off:=2 } (Value.slice l8 q_.length c2_))=n8 at BK HWW ⊢;have n9:=aM (j7.out.trans (HWW.out.mono j7.out.size));by_cases hr:r_=0
    ·subst hr;have o0:=aM (HS.out.frame _ _ _ n8 _ (j9.out rfl) (HWW.out.mono (Nat.zero_le _)) (fun k hk=>HWW.out.block k (l5.out k hk)))
     have o8:=aM (Kd.dQ (Kd.aG (ok':=fun k=>w0.heap.size≤k∧¬ ok9 k) (Kd.nV (w1:=g5) (Kd.iq HO.out) (fun k hk hlt=>l6.out.2 k hlt hk.1.2)) (fun k hk=>⟨hk.1.1,fun o9=>(HS9.out k o9).elim hk.1.2 (fun h=>absurd hk.2 (Nat.not_lt.2 h))⟩)) HWW.out)
     have HLT:=aM (fun k=>Kd.kr HO.out k)
     have HOK:=aM (fun k (hk:u6.ownBlock=some k)=>o8.out.1 k hk)
     have HP:=aM (Kd.jw (ok':=fun k=>(w0.heap.size≤k∧¬ ok9 k)∧some k≠u6.ownBlock) (Kd.kD (W1:=n8) (Kd.ni l9.out) (fun k hk hlt=>HWW.out.block k hk.2)) (fun k hk=>⟨⟨Nat.le_trans HB.out.size hk.1.1,hk.1.2⟩,fun he=>absurd (HLT.out k he.symm) (Nat.not_lt.2 hk.1.1)⟩))
     have HFR:=aM (show ∀ k,n8.heap.size≤k→w0.heap.size≤k∧¬ ok9 k from fun k hk=>⟨Nat.le_trans n9.out.size hk,fun o9=>absurd (l5.out k o9) (Nat.not_lt.2 (Nat.le_trans HWW.out.size hk))⟩)
     have HLN:=aM (show(xs_.length+1) * 56≤140737488355328 by have:=HX.out;have:=f8.out;have:=HN.out;omega)
     have p9:=aM (show ∀ k,ok9 k→k < n8.heap.size from fun k o9=>Nat.lt_of_lt_of_le (l5.out k o9) HWW.out.size)
     clear l6 l9 HLT j8 j9 HS9 l5 HO j7 HLJ;obtain⟨r6,r7,r8,r9,t4,t5⟩:=bk3 BK;clear HWW BK;go_wp2_with (first|((with_reducible refine dw (b:=.append) (xs:=#[.tmp 29,.tmp 31]) rfl ?_);at_builtin;refine Kd.tC k33 (w0:=w0) w0.heap.size rfl (.tmp 29) (.tmp 31) 22 33 (.agg #[(.bool false),(.slice none 0 0),(.slice none 0 0)]) 56 rfl Try.underlying22 pq rfl (by decide) (by omega) u6 xs_ (⟨b_,p_,q_⟩:S33) [.bool b_,.slice l7 p_.length c1_,.slice l8 q_.length c2_] (fun k=>w0.heap.size≤k∧¬ ok9 k) (fun k=>(w0.heap.size≤k∧¬ ok9 k)∧some k≠u6.ownBlock) rfl rfl ?aP (fun _ hk=>hk) ?aF ?aO ?aB ?aS ?aL ?_;(case aP=>exact HP.out);(case aF=>exact HFR.out);(case aO=>exact o8.out);(case aB=>exact n9.out);(case aS=>exact n9.out.size);(case aL=>exact HLN.out);intro t6 t7 ho hb hg hat;have t8:=aM ho;have t9:=aM hb;have z3:=aM (HS.out.frame _ _ _ t7 _ o0.out (nk hg) (fun k hk=>hg.block k (p9.out k hk) (fun he=>(HOK.out k he.symm).2 hk)));clear ho hb hg hat o0 o8 n9))
     go_roundg k1
     case measure=>omega
     case rel =>
      have e_:wrap64 ((j_:Int)+1)=((j_+1:Nat):Int):=by have:=HN.out;have:=f8.out;unfold wrap64;omega
      exact⟨j_+1,_,ok9,by rw[e_],⟨by have:=HJ.out;omega,by have:=HJ.out;have:=f8.out;omega⟩,⟨by have:=HX.out;simp;omega⟩,z3,t8,t9⟩
    ·have z4:(r_ != 0)=true:=bne_iff_ne.mpr hr;have HQ:=aM (HS.out.err _ _ n8 (j8.out hr) HWW.out);go_wp2
     go_ret2
     exact⟨_,r_,rfl,n9.out,fun _=>⟨rfl,HQ.out⟩,fun h=>absurd h hr⟩
   ·have f6:decide ((j_:Int) < (n:Int))=false:=decide_eq_false c5;have f7:decide (j_ < n)=false:=decide_eq_false (by omega)
    have f8:=aM c5;clear c5;go_wp2
    go_ret2
    obtain rfl:j_=n:=by have:=f8.out;have:=HJ.out;omega
    exact⟨_,0,rfl,HB.out,fun h=>absurd rfl h,fun _=>⟨xs_,okj,HI.out,HO.out⟩⟩
/-- What 'each' tells: one number after the other,with a state of the function's own. -/
def iI {σ:Type} (g:Nat→σ→Option (σ × S33 × Int)):Nat→Nat→σ→List S33→Option (σ × List S33 × Int)
 | 0,_,s,acc=>some (s,acc,0)
 | c+1,j,s,acc=>(g j s).bind fun x=>if x.2.2=0 then iI g c (j+1) x.1 (acc ++ [x.2.1]) else some (x.1,[],x.2.2)
theorem qc {σ:Type} {g g':Nat→σ→Option (σ × S33 × Int)} (h:∀ j s,LeO (g j s) (g' j s)):∀ c j s acc,LeO (iI g c j s acc) (iI g' c j s acc):=by
 intro c;induction c with
 | zero=>intro j s acc;exact LeO.refl _
 | succ c ih =>
  intro j s acc;rw[iI,iI];exact LeO.bind (h j s) (fun x=>LeO.ite (ih _ _ _) (LeO.refl _))
structure CU {σ:Type} (g:Nat→σ→Option (σ × S33 × Int)) (ff:Nat) (fc:Array Value) (n:Nat) (w0:World) (J:World→Prop) (St:Nat→σ→World→(Nat→Prop)→Prop):Prop where
 fn:∃ fn,Try.prog.funcs[ff]?=some fn∧(fn.name == "runtime.NumGoroutine")=false∧fn.body.isSome=true
 step:∀ (j:Nat) s W ok s' b p q r,j < n→St j s W ok→bw w0 W→g j s=some (s',(⟨b,p,q⟩:S33),r)→Calls Try.prog ff (#[.int .i64 (j:Int)] ++ fc) W fun e W'=>∃ (v1 v2:Value),e=.returned (.tuple #[.agg #[.bool b,v1,v2],.int .i64 r])∧bw w0 W'∧J W'∧(∃ ok':Nat→Prop,(r=0→St (j+1) s' W' ok')∧(∀ k,ok' k→ok k∨W.heap.size≤k)∧(∀ k,ok' k→k < W'.heap.size)∧Kd.FK k33 W' (fun k=>W.heap.size≤k∧¬ ok' k) (⟨b,p,q⟩:S33) [.bool b,v1,v2]∧Kept W W' ok)
 lt:∀ j s W ok,St j s W ok→∀ k,ok k→k < W.heap.size
 frame:∀ j s W W' ok,St j s W ok→Below 0 W W'→(∀ k,ok k→W'.heap[k]?=W.heap[k]?)→St j s W' ok
 stay:∀ W W',J W→Below W.heap.size W W'→J W'
theorem Hzb.calls {σ:Type} (g:Nat→σ→Option (σ × S33 × Int)) (cp:Int) (A:Option Addr) (n c:Nat) (ff:Nat) (fc:Array Value) (a6 w:World) (J:World→Prop) (St:Nat→σ→World→(Nat→Prop)→Prop) (a7 a8:σ) (ys:List S33) (r:Int) (ok0:Nat→Prop) (hS:CU g ff fc n a6 J St) (a9:St 0 a7 w ok0) (hB:Below a6.heap.size a6 w) (hn:n≤1000) (h:iI g n 0 a7 []=some (a8,ys,r)) :
  Calls Try.prog 48 #[.agg #[.int .i64 cp,.slice A n c],.func (.func ff) #[] fc] w fun e w'=>∃ (v:Value),e=.returned (.tuple #[v,.int .i64 r])∧Below a6.heap.size a6 w'∧(r≠0→v=.slice none 0 0∧J w')∧(r=0→∃ ok,St n a8 w' ok∧Kd.N k33 33 w' a6.heap.size (fun k=>a6.heap.size≤k∧¬ ok k) v ys):=by
 refine(Izq.calls cp A n c ff fc a6 w (fun j xs W ok=>∃ s,St j s W ok∧j≤n∧iI g (n - j) j s xs=some (a8,ys,r)) (fun q W=>q=r∧J W) ok0 ⟨hS.fn,?_,?_,?_,fun _ W W' h hb=>⟨h.1,hS.stay W W' h.2 hb⟩⟩ ⟨a7,a9,Nat.zero_le _,by simpa using h⟩ hB hn).mono ?_
 ·rintro j xs W ok hj ⟨s,hs,_,he⟩ hb;obtain⟨m,hm⟩:∃ m,n - j=m+1:=⟨n - j - 1,by omega⟩
  rw[hm,iI,Option.bind_eq_some_iff] at he;obtain⟨⟨s',⟨b,p,q⟩,e⟩,hg,he⟩:=he;refine(hS.step j s W ok s' b p q e hj hs hb hg).mono ?_;rintro e' W' ⟨b4,b5,rfl,hb',hj',ok',hst,b6,b7,b8,b9⟩;refine⟨b,b4,b5,p,q,e,rfl,hb',fun hr=>?_,ok',fun hr=>?_,b6,b7,b8,b9⟩
  ·simp only[if_neg hr] at he;injection he with he
   exact⟨(congrArg (fun z=>z.2.2) he),hj'⟩
  ·simp only[if_pos hr] at he;exact⟨s',hst hr,hj,by rw[show n - (j+1)=m by omega];exact he⟩
 ·rintro j xs W ok ⟨s,hs,_⟩;exact hS.lt j s W ok hs
 ·rintro j xs W W' ok ⟨s,hs,hj,he⟩ hb hk;exact⟨s,hS.frame j s W W' ok hs hb hk,hj,he⟩
 ·rintro e w' ⟨v,q,rfl,hb,b6,b7⟩;by_cases hq:q=0
  ·obtain⟨xs,ok,⟨s,hs,_,he⟩,hN⟩:=b7 hq;rw[Nat.sub_self,iI] at he;injection he with he
   injection he with he1 he
   injection he with he2 he3
   subst he1 he2;subst hq;subst he3;exact⟨v,rfl,hb,fun h=>absurd rfl h,fun _=>⟨ok,hs,hN⟩⟩
  ·obtain⟨hv,hr,hj⟩:=b6 hq;subst hr;exact⟨v,rfl,hb,fun _=>⟨hv,hj⟩,fun h=>absurd h hq⟩
theorem Hzm.calls (k:Nat) (cp:Int) (gt gm:Nat) (A:Option Addr) (c:Nat) (l:List S33) (mf:Nat) (mc:Array Value) (j:Int) (y:S33) (a6:Bool) (a7 a8:List Int) (a9:Int) (w:World)
  (ht:w.heap[gt]?=some (.cells #[.int .i64 cp,.slice A l.length c] 24 (0,0))) (hm:w.heap[gm]?=some (.cells #[.func (.func mf) #[] mc] 50 (0,0))) (hC:Kd.C k33 w A l.length l) (b4:0≤j) (b5:j < (l.length:Int))
  (hfn:∃ fn,Try.prog.funcs[mf]?=some fn∧(fn.name == "runtime.NumGoroutine")=false∧fn.body.isSome=true)
  (hy:∀ W,bw w W→Calls Try.prog mf (#[.int .i64 j] ++ mc) W fun e W'=>∃ b6 b7 b8 c2,e=.returned (.agg #[.bool y.f0,.slice b6 y.f1.length b7,.slice b8 y.f2.length c2])∧Below W.heap.size W W'∧y.f1.length≤b7∧(Kd.int .i64).C W' b6 y.f1.length y.f1∧y.f2.length≤c2∧(Kd.int .i64).C W' b8 y.f2.length y.f2)
  (h:Fzx.f k (ag l j).f0 (ag l j).f1 (ag l j).f2 y.f0 y.f1 y.f2=some (a6,a7,a8,a9)) :
  Calls Try.prog 76 #[.int .i64 j,.pointer (some ⟨gt,0,none⟩),.pointer (some ⟨gm,0,none⟩)] w fun e w'=>∃ v1_ v2_:Value,e=.returned (.tuple #[.agg #[.bool a6,v1_,v2_],.int .i64 a9])∧rI w' w (oV v2_) v1_ a7∧rI w' w (oV v1_) v2_ a8∧bw w w':=by
 obtain⟨fn_,hf_,hn_,hb_⟩:=hfn;have HF:=aM hf_;have HNM:=aM hn_;have HBD:=aM hb_;have HQ:=aM hy;have HH:=aM h;have HB:=aM (Below.refl w.heap.size w);obtain⟨ad,b6,b7,b8,c2,ead,b9,d6,d7,d8,hC1,d9,hC2⟩:=gT hC j b4 b5;subst ead;have HX:=aM (And.intro b9 (And.intro d6 d7));have HE:=aM (And.intro d8 (And.intro hC1 (And.intro d9 hC2)));have T1:=aM ((af ht 1).trans rfl);have M1:=aM ((af hm 0).trans rfl);have pT:=eq_true b4;have qT:=eq_true b5;clear hf_ hn_ hb_ hy h b9 d6 d7 d8 hC1 d9 hC2 ht hm hC b4 b5;go_enter Try.func76,Try.ntmps76
 go_upto_region 1 with (first|((with_reducible refine gd 4 rfl ?_);refine bz 33 ?_;intro e6 hg wb e7 hb;have G4:=aM (show w.heap.size≤e6 by rw[hg];exact Nat.le_refl _);replace HB:=bB hb;clear hb hg))
 have hS:∀ W,bw w W→W.cell? ⟨gt,1,none⟩=some (.slice (some ad) l.length c)∧W.cell? ⟨gm,0,none⟩=some (.func (.func mf) #[] mc)∧W.cell? (ad.add (j.toNat * 3))=some (.bool (ag l j).f0)∧W.cell? ⟨(ad.add (j.toNat * 3)).block,(ad.add (j.toNat * 3)).off+1,none⟩=some (.slice b6 (ag l j).f1.length b7)∧W.cell? ⟨(ad.add (j.toNat * 3)).block,(ad.add (j.toNat * 3)).off+2,none⟩=some (.slice b8 (ag l j).f2.length c2):=fun W hW=>⟨cz hW T1.out,cz hW M1.out,cz hW HX.out.1,cz hW HX.out.2.1,cz hW HX.out.2.2⟩
 have HBd:=aM HB.out.drew;have f6:=aM (az e7.out);have HS:=aM hS;clear hS;refine gz (n:=13) (S:=fun W=>W.cell? ⟨gt,1,none⟩=some (.slice (some ad) l.length c)∧W.cell? ⟨gm,0,none⟩=some (.func (.func mf) #[] mc)∧W.cell? (ad.add (j.toNat * 3))=some (.bool (ag l j).f0)∧W.cell? ⟨(ad.add (j.toNat * 3)).block,(ad.add (j.toNat * 3)).off+1,none⟩=some (.slice b6 (ag l j).f1.length b7)∧W.cell? ⟨(ad.add (j.toNat * 3)).block,(ad.add (j.toNat * 3)).off+2,none⟩=some (.slice b8 (ag l j).f2.length c2)) (ds:=[]) (bA 13 0) (by kernel_rfl) rfl rfl (HS.out _ HBd.out) (fun hHeld=>?_)
 generalize wb.drew=w1 at HBd f6 hHeld ⊢;refine pV 0 6 (bA 13 1) ?_;refine tV 1 7 (bA 13 3) hHeld ?_;refine pV 2 8 (bA 13 7) ?_;refine pV 3 9 (bA 13 15) ?_;refine tV 4 10 (bA 13 31) hHeld ?_;refine tV 5 11 (bA 13 63) hHeld ?_;refine pV 6 12 (bA 13 127) ?_;have hQ1:=HQ.out w1 HBd.out;refine iK (i:=7) (N:=some 13) (bA 13 255) rfl rfl (by kernel_rfl) (by decide) (fun K hK=>?_)
 refine BC (f:=mf) (fn:=fn_) HF.out HNM.out HBD.out (#[.int .i64 j] ++ mc) (by rfl) rfl rfl (by simp [Act.eval,uF]) ?_
 refine hQ1.mono ?_;rintro e j3 ⟨B1,d1,B2,d2,rfl,j4,j5,hC3,j6,hC4⟩;refine⟨_,rfl,?_⟩;have j7:=aM (aX HBd.out HBd.out.size j4);have j8:=aM (aD f6.out j4);have HE2:=aM (And.intro j5 (And.intro hC3 (And.intro j6 hC4)));clear j4 j5 hC3 j6 hC4 f6 HBd hQ1;refine hK.out _ _ (HS.out _ j7.out) (fun hHeld=>?_)
 clear hK K;refine nm 13 ?_;refine iK (i:=8) (N:=some 14) (bA 13 511) rfl rfl (by kernel_rfl) (by decide) (fun K hK=>?_)
 refine eH Try.func64 (by kernel_rfl) rfl #[.agg #[.bool (ag l j).f0,.slice b6 (ag l j).f1.length b7,.slice b8 (ag l j).f2.length c2],.agg #[.bool y.f0,.slice B1 y.f1.length d1,.slice B2 y.f2.length d2]] (by rfl) rfl rfl mA ?_
 refine(Fzx.calls k _ _ _ (ag l j).f1 _ _ (ag l j).f2 _ _ _ y.f1 _ _ y.f2 a6 a7 a8 a9 j3 (Kd.aT HE.out.2.1 j7.out) HE.out.1 (Kd.aT HE.out.2.2.2 j7.out) HE.out.2.2.1 HE2.out.2.1 HE2.out.1 HE2.out.2.2.2 HE2.out.2.2.1 HH.out).mono ?_;rintro e j9 ⟨l5,l6,rfl,l7,l8,hb⟩;refine⟨_,rfl,?_⟩;have l9:=aM (aX j7.out j7.out.size hb);have m0:=aM (aD j8.out hb);have m4:=aM (Kd.dO l7 j7.out.size);have m5:=aM (Kd.dO l8 j7.out.size);clear l7 l8 hb j7 j8;obtain⟨m6,m7,rfl⟩:=Kd.aj m4.out;obtain⟨m8,m9,rfl⟩:=Kd.aj m5.out;refine hK.out _ _ (HS.out _ l9.out) (fun hHeld=>?_)
 clear hK K;refine nm 14 ?_;refine pV 9 15 (bA 13 1023) ?_;refine pV 10 16 (bA 13 2047) ?_;refine iK (i:=11) (N:=none) (bA 13 4095) rfl rfl (by kernel_rfl) (by decide) (fun K hK=>?_)
 obtain⟨n0,n7,n8,n9,o0,o8⟩:=bk3 m0;refine iY (w1:=?_) (by rfl) rfl ?_ ?_
 rotate_left
 ·go_simp
  rfl
 have o9:=aM (((l9.out.setCell (p:=⟨e6,0,none⟩) G4.out (.bool a6)).setCell (p:=⟨e6,1,none⟩) G4.out (.slice m6 a7.length m7)).setCell (p:=⟨e6,2,none⟩) G4.out (.slice m8 a8.length m9));refine hK.out _ _ (HS.out _ o9.out) (fun hHeld=>?_)
 clear hK K;refine pV 12 5 (bA 13 8191) ?_;refine gZ (by kernel_rfl) ?_
 go_wp2
 refine rC e6 33 #[.bool a6,.slice m6 a7.length m7,.slice m8 a8.length m9] (au (au (au m0.out 0 (.bool a6) rfl) 1 (.slice m6 a7.length m7) rfl) 2 (.slice m8 a8.length m9) rfl) Try.underlying33 ?_
 have fr:∀ (v u:Value) (xs:List Int) (b p9 r6:Value),rI j9 w (fun k_=>some k_≠u.ownBlock) v xs→Kd.R (Kd.int .i64) 3 (((j9.setCell ⟨e6,0,none⟩ b).setCell ⟨e6,1,none⟩ p9).setCell ⟨e6,2,none⟩ r6) w.heap.size (fun k_=>some k_≠u.ownBlock) v xs:=fun v u xs b p9 r6 hv=>Kd.ah (Kd.bF (p:=⟨e6,2,none⟩) (Kd.bF (p:=⟨e6,1,none⟩) (Kd.bF (p:=⟨e6,0,none⟩) (Kd.aA hv m0.out (by decide)) (fun _ hk=>hk.2) b) (fun _ hk=>hk.2) p9) (fun _ hk=>hk.2) r6) (fun _ hk=>hk.1)
 exact⟨_,_,rfl,fr _ _ _ _ _ _ m4.out,fr _ _ _ _ _ _ m5.out,o9.out⟩
theorem oW {w:World} {base:Nat} {b:Bool} {a6 a7:Option Addr} {a8 c2:Nat} {p q:List Int} {okp okq ok:Nat→Prop} (a9:Kd.R (Kd.int .i64) 3 w base okp (.slice a6 p.length a8) p) (b4:Kd.R (Kd.int .i64) 3 w base okq (.slice a7 q.length c2) q) (hok:∀ k,base≤k→k < w.heap.size→ok k):Kd.FK k33 w ok (⟨b,p,q⟩:S33) [.bool b,.slice a6 p.length a8,.slice a7 q.length c2] :=
 eG _ _ (⟨b,p,q⟩:S33) (Kd.ax a9).2.1 (Kd.V_F (base:=base) (Kd.R_V (Kd.ah (ok':=ok) (Kd.dJ rfl a9) (fun k hk=>hok k (Kd.dW a9 k hk.symm) (Kd.dS a9 k hk.symm))))) (Kd.ax b4).2.1 (Kd.V_F (base:=base) (Kd.R_V (Kd.ah (ok':=ok) (Kd.dJ rfl b4) (fun k hk=>hok k (Kd.dW b4 k hk.symm) (Kd.dS b4 k hk.symm)))))
/-- One number of a filled tank. -/
def iR (k:Nat) (g:Nat→Option S33) (l:List S33) (j:Nat) (_:Unit):Option (Unit × S33 × Int):=(g j).bind fun y=>(Fzx.f k (ag l (j:Int)).f0 (ag l (j:Int)).f1 (ag l (j:Int)).f2 y.f0 y.f1 y.f2).bind fun r=>some ((),(⟨r.1,r.2.1,r.2.2.1⟩:S33),r.2.2.2)
def Gzv.f (k:Nat) (g:Nat→Option S33) (cp:Int) (l:List S33):Option (Int × List S33 × Int):=if l.length≤1000 then(iI (iR k g l) l.length 0 () []).bind fun x=>if x.2.2=0 then(Azb.f k cp x.2.1).bind fun e=>if e=0 then some (cp,x.2.1,0) else some (0,[],e) else some (0,[],x.2.2) else none
theorem tH (k:Nat) (g:Nat→Option S33) (cp:Int) (A:Option Addr) (c:Nat) (l:List S33) (mf:Nat) (mc:Array Value) (gt gm:Nat) (ys:List S33) (r:Int) (a6 w:World) (hB:Below a6.heap.size a6 w)
  (ht:w.heap[gt]?=some (.cells #[.int .i64 cp,.slice A l.length c] 24 (0,0))) (hm:w.heap[gm]?=some (.cells #[.func (.func mf) #[] mc] 50 (0,0))) (hC:Kd.C k33 w A l.length l) (hn:l.length≤1000)
  (hfn:∃ fn,Try.prog.funcs[mf]?=some fn∧(fn.name == "runtime.NumGoroutine")=false∧fn.body.isSome=true)
  (hy:∀ (j:Nat) y W,j < l.length→g j=some y→bw w W→Calls Try.prog mf (#[.int .i64 (j:Int)] ++ mc) W fun e W'=>∃ a7 a8 a9 c2,e=.returned (.agg #[.bool y.f0,.slice a7 y.f1.length a8,.slice a9 y.f2.length c2])∧Below W.heap.size W W'∧y.f1.length≤a8∧(Kd.int .i64).C W' a7 y.f1.length y.f1∧y.f2.length≤c2∧(Kd.int .i64).C W' a9 y.f2.length y.f2)
  (h:iI (iR k g l) l.length 0 () []=some ((),ys,r)) :
  Calls Try.prog 48 #[.agg #[.int .i64 cp,.slice A l.length c],.func (.func 76) #[] #[.pointer (some ⟨gt,0,none⟩),.pointer (some ⟨gm,0,none⟩)]] w fun e w'=>∃ (v:Value),e=.returned (.tuple #[v,.int .i64 r])∧Below a6.heap.size a6 w'∧bw w w'∧(r≠0→v=.slice none 0 0)∧(r=0→Kd.N k33 33 w' a6.heap.size (fun k=>a6.heap.size≤k∧w.heap.size≤k) v ys):=by
 refine(Hzb.calls (iR k g l) cp A l.length c 76 #[.pointer (some ⟨gt,0,none⟩),.pointer (some ⟨gm,0,none⟩)] w w (fun _=>True) (fun _ _ W ok=>bw w W∧ok=fun k=>k < w.heap.size) () () ys r _ ⟨⟨_,Try.func76,by kernel_rfl,rfl⟩,?_,?_,?_,fun _ _ _ _=>trivial⟩ ⟨Below.refl _ _,rfl⟩ (Below.refl _ _) hn h).mono ?_
 ·rintro j s W ok s' b p q e hj ⟨hb,rfl⟩ _ hg;unfold iR at hg;rw[Option.bind_eq_some_iff] at hg;obtain⟨y,hgy,hg⟩:=hg;rw[Option.bind_eq_some_iff] at hg;obtain⟨⟨b4,b5,b6,b7⟩,ha,hg⟩:=hg;injection hg with hg
  injection hg with _ hg
  injection hg with hg he
  injection hg with b8 b9 d6
  simp only at b8 b9 d6 he;subst b8 b9 d6 he;refine(Hzm.calls k cp gt gm A c l mf mc (j:Int) y b4 b5 b6 b7 W (aD ht hb) (aD hm hb) (Kd.aT hC hb) (by omega) (by omega) hfn (fun W1 d7=>hy j y W1 hj hgy (aX hb hb.size d7)) ha).mono ?_
  rintro e W' ⟨d8,d9,rfl,d7,e6,hb'⟩;obtain⟨a7,a8,rfl⟩:=Kd.aj d7;obtain⟨a9,c2,rfl⟩:=Kd.aj e6;refine⟨_,_,rfl,aX hb hb.size hb',trivial,_,fun _=>⟨aX hb hb.size hb',rfl⟩,fun k hk=>.inl hk,fun k hk=>Nat.lt_of_lt_of_le hk (Nat.le_trans hb.size hb'.size),oW d7 e6 (fun k hk _=>⟨hk,Nat.not_lt.2 (Nat.le_trans hb.size hk)⟩),Kept.of_below hb' _⟩
 ·rintro j s W ok ⟨hb,rfl⟩ k hk;exact Nat.lt_of_lt_of_le hk hb.size
 ·rintro j s W W' ok ⟨hb,rfl⟩ e7 hk;exact⟨⟨e7.os.trans hb.os,e7.tape.trans hb.tape,e7.output.trans hb.output,Nat.le_trans hb.size e7.size,fun k hk'=>(hk k hk').trans (hb.block k hk')⟩,rfl⟩
 ·rintro e w' ⟨v,rfl,hb,d7,e6⟩;refine⟨v,rfl,aX hB hB.size hb,hb,fun hr=>(d7 hr).1,fun hr=>?_⟩
  obtain⟨ok,⟨_,rfl⟩,hN⟩:=e6 hr;exact Kd.aG (Kd.fq hN hB.size) (fun k hk=>⟨Nat.le_trans hB.size hk.1,hk.1⟩)
theorem Gzv.calls (k:Nat) (g:Nat→Option S33) (cp:Int) (A:Option Addr) (c:Nat) (l:List S33) (mf:Nat) (mc:Array Value) (a6:Int) (a7:List S33) (a8:Int) (w:World) (hC:Kd.C k33 w A l.length l) (hc:l.length≤c)
  (hfn:∃ fn,Try.prog.funcs[mf]?=some fn∧(fn.name == "runtime.NumGoroutine")=false∧fn.body.isSome=true)
  (hy:∀ (j:Nat) y W,j < l.length→g j=some y→bw w W→Calls Try.prog mf (#[.int .i64 (j:Int)] ++ mc) W fun e W'=>∃ a9 b4 b5 c2,e=.returned (.agg #[.bool y.f0,.slice a9 y.f1.length b4,.slice b5 y.f2.length c2])∧Below W.heap.size W W'∧y.f1.length≤b4∧(Kd.int .i64).C W' a9 y.f1.length y.f1∧y.f2.length≤c2∧(Kd.int .i64).C W' b5 y.f2.length y.f2)
  (h:Gzv.f k g cp l=some (a6,a7,a8)) :
  Calls Try.prog 44 #[.agg #[.int .i64 cp,.slice A l.length c],.func (.func mf) #[] mc] w fun e w'=>∃ v1_:Value,e=.returned (.tuple #[.agg #[.int .i64 a6,v1_],.int .i64 a8])∧Kd.N k33 33 w' w.heap.size (fun k_=>w.heap.size≤k_) v1_ a7∧bw w w':=by
 have hmf_:∀ (fn:Fn) (first cap:Array Value) (w:World),(Instr.makeFunc fn first cap).run Try.prog w=.ok (.func fn first cap) w:=fun _ _ _ _=>rfl
 unfold Gzv.f at h;by_cases hn:l.length≤1000
 ·rw[if_pos hn,Option.bind_eq_some_iff] at h;obtain⟨⟨u_,ys,b6⟩,hE,h⟩:=h;have HC:=aM hC;have HY:=aM hy;have HFN:=aM hfn;have HN:=aM hn;have HE:=aM hE;have H:=aM h;have HB:=aM (Below.refl w.heap.size w);clear hC hy hfn hn hE h;go_enter Try.func44,Try.ntmps44
  go_upto_region 2 with (first|((with_reducible refine gd 2 rfl ?_);refine bx #[.int .i64 cp,.slice A l.length c] 24 ?_;intro b7 hg b8 b9 hb;have G2:=gA w hg;replace HB:=bB hb;clear hb hg)|((with_reducible refine gd 3 rfl ?_);refine bx #[.func (.func mf) #[] mc] 50 ?_;intro d6 hg d7 d8 hb;have G3:=gA w hg;replace b9:=kb b9 hb;replace HB:=bB hb;clear hb hg)|((with_reducible refine gd 4 rfl ?_);refine bx #[.int .i64 0,.slice none 0 0] 24 ?_;intro d9 hg e6 e7 hb;have G4:=gA w hg;have N24:=nl hg b9;have N42:=ng hg b9;replace b9:=kb b9 hb;replace d8:=kb d8 hb;replace HB:=bB hb;clear hb hg;obtain⟨f6,f7,f8,g5⟩:=bk2 b9)|((with_reducible refine df (f:=48) rfl ?_);refine gJ (some 13) rfl rfl Try.func48 (by kernel_rfl) rfl #[.agg #[.int .i64 cp,.slice A l.length c],.func (.func 76) #[] #[.pointer (some ⟨b7,0,none⟩),.pointer (some ⟨d6,0,none⟩)]] rfl (by first|exact mA|(simp [Act.eval];done)) ?_;refine(tH k g cp A c l mf mc b7 d6 ys b6 w e6 HB.out b9.out d8.out (Kd.aT HC.out HB.out) HN.out HFN.out (fun j y W hj hg hb=>HY.out j y W hj hg (aX HB.out HB.out.size hb)) HE.out).mono ?_;rintro e g8 ⟨g9,rfl,hb,j3,hv1,hv2⟩;refine⟨_,rfl,?_⟩;have j4:=aM hb;have HV1:=aM hv1;have HV2:=aM hv2;have L4:=aM (show ∀ k,e6.heap.size≤k→k≠d9 from fun k hk he=>absurd (aV e7.out) (by rw[← he];exact Nat.not_lt.2 hk));replace b9:=aM (aD b9.out j3);replace e7:=aM (aD e7.out j3);clear hb j3 hv1 hv2 f6 f7 f8 g5))
  by_cases hr:b6=0
  ·subst hr;have h:=H.out;simp only[if_true] at h;rw[Option.bind_eq_some_iff] at h;obtain⟨j5,hck,h⟩:=h;have HV:=aM (Kd.aG (ok':=fun k=>w.heap.size≤k∧k≠d9) (HV2.out rfl) (fun k hk=>⟨hk.1,L4.out k hk.2⟩))
   clear H HV1 HV2 L4 HE HY HC HB d8;obtain⟨j6,c5,ev5⟩:=Kd.ek HV.out;subst ev5;have CK:=aM hck;have H:=aM h;clear hck h;obtain⟨f6,f7,f8,g5⟩:=bk2 b9;go_upto_region 5 with (first|((with_reducible refine gd 8 rfl ?_);refine bx #[.int .i64 0,.slice none 0 0] 24 ?_;intro j7 hg j8 j9 hb;have G8:=aM (show w.heap.size≤j7 by rw[hg];exact j4.out.size);have N84:=ng hg e7;have N48:=nl hg e7;replace HV:=aM (Kd.aG (ok':=fun k=>(w.heap.size≤k∧k≠d9)∧k≠j7) (Kd.dQ (Kd.iq HV.out) hb) (fun k hk=>⟨hk.1,fun he=>absurd hk.2 (by rw[he,hg];exact Nat.lt_irrefl _)⟩));replace e7:=aM (aD e7.out hb);have l5:=aM (aX j4.out j4.out.size hb);clear hb hg f6 f7 f8 g5;obtain⟨f6,f7,f8,g5⟩:=bk2 j9))
   have l6:=aM (au (au j9.out 0 (.int .i64 cp) rfl) 1 (.slice j6 ys.length c5) rfl);have l7:=aM ((l5.out.setCell (p:=⟨j7,0,none⟩) G8.out (.int .i64 cp)).setCell (p:=⟨j7,1,none⟩) G8.out (.slice j6 ys.length c5));have HV':=aM (Kd.bJ (p:=⟨j7,1,none⟩) (Kd.bJ (p:=⟨j7,0,none⟩) HV.out (fun _ hk=>hk.2) (.int .i64 cp)) (fun _ hk=>hk.2) (.slice j6 ys.length c5))
   have l8:=aM (av (p:=⟨j7,1,none⟩) (av (p:=⟨j7,0,none⟩) e7.out N48.out (.int .i64 cp)) N48.out (.slice j6 ys.length c5));clear j9 l5 HV e7 f6 f7 f8 g5 j4;generalize ((j8.setCell { block:=j7,off:=0 } (Value.int IntKind.i64 cp)).setCell { block:=j7,off:=1 } (Value.slice j6 ys.length c5))=l9 at l6 l7 HV' l8 ⊢;obtain⟨f6,f7,f8,g5⟩:=bk2 l6;go_upto_region 6 with (first|((with_reducible refine gc 17 rfl ?_);refine gC 17 (some 25) Try.func17 #[.agg #[.int .i64 cp,.slice j6 ys.length c5]] ?_;refine(Azb.calls k cp j6 c5 ys j5 l9 (Kd.gQ HV'.out).2.2 (Kd.gQ HV'.out).2.1 CK.out).mono ?_;rintro e m0 ⟨rfl,hb⟩;refine⟨_,rfl,?_⟩;have m4:=aM (aX l7.out l7.out.size hb);have HV10:=aM (Kd.dQ HV'.out hb);have m5:=aM (aD l6.out hb);have m6:=aM (aD l8.out hb);clear hb l6 l7 HV' l8 f6 f7 f8 g5))
   by_cases hr:j5=0
   ·subst hr;have h:=H.out;simp only[if_true] at h;injection h with h
    injection h with m7 h
    injection h with m8 m9
    subst m7 m8 m9;obtain⟨f6,f7,f8,g5⟩:=bk2 m5;obtain⟨hdz0,hdz1,hgz0,hgz1⟩:=bk2 m6;go_wp2
    refine rC d9 24 #[.int .i64 cp,.slice j6 ys.length c5] (au (au m6.out 0 (.int .i64 cp) rfl) 1 (.slice j6 ys.length c5) rfl) Try.underlying24 ?_
    exact⟨_,rfl,Kd.aG (Kd.bJ (p:=⟨d9,1,none⟩) (Kd.bJ (p:=⟨d9,0,none⟩) HV10.out (fun _ hk=>hk.1.2) (.int .i64 cp)) (fun _ hk=>hk.1.2) (.slice j6 ys.length c5)) (fun _ hk=>hk.1.1),(m4.out.setCell (p:=⟨d9,0,none⟩) G4.out _).setCell (p:=⟨d9,1,none⟩) G4.out _⟩
   ·have h:=H.out;simp only[if_neg hr] at h;injection h with h
    injection h with m7 h
    injection h with m8 m9
    subst m7 m8 m9;have n0:(j5 != 0)=true:=bne_iff_ne.mpr hr;obtain⟨f6,f7,f8,g5⟩:=bk2 m5;obtain⟨hdz0,hdz1,hgz0,hgz1⟩:=bk2 m6;go_wp2
    refine rC d9 24 #[.int .i64 0,.slice none 0 0] (au (au m6.out 0 (.int .i64 0) rfl) 1 (.slice none 0 0) rfl) Try.underlying24 ?_
    exact⟨_,rfl,Kd.fU _ _ _ _ _,(m4.out.setCell (p:=⟨d9,0,none⟩) G4.out _).setCell (p:=⟨d9,1,none⟩) G4.out _⟩
  ·have h:=H.out;simp only[if_neg hr] at h;injection h with h
   injection h with m7 h
   injection h with m8 m9
   subst m7 m8 m9;have n0:(b6 != 0)=true:=bne_iff_ne.mpr hr;obtain⟨f6,f7,f8,g5⟩:=bk2 e7;go_wp2
   refine rC d9 24 #[.int .i64 0,.slice none 0 0] (au (au e7.out 0 (.int .i64 0) rfl) 1 (.slice none 0 0) rfl) Try.underlying24 ?_
   exact⟨_,rfl,Kd.fU _ _ _ _ _,(j4.out.setCell (p:=⟨d9,0,none⟩) G4.out _).setCell (p:=⟨d9,1,none⟩) G4.out _⟩
 ·rw[if_neg hn] at h;cases h
def rM (k:Nat) (m:List Int) (j:Nat):Option S33:=(Gzx.f k (j:Int) [m]).bind fun b=>some (⟨b.1,b.2.1,b.2.2⟩:S33)
def Gzw.f (k:Nat) (cp:Int) (l:List S33) (m:List Int):Option (Int × List S33 × Int):=(Azb.f k cp l).bind fun e=>if e=0 then(Gzk.f k m (l.length:Int)).bind fun e2=>if e2=0 then Gzv.f k (rM k m) cp l else some (0,[],e2) else some (0,[],e)
theorem Gzw.calls (k:Nat) (cp:Int) (A:Option Addr) (c:Nat) (l:List S33) (a6:Option Addr) (a7:Nat) (m:List Int) (a8:Int) (a9:List S33) (b4:Int) (w:World) (hC:Kd.C k33 w A l.length l) (hc:l.length≤c) (hC1:cI w a6 m) (b5:m.length≤a7) (h:Gzw.f k cp l m=some (a8,a9,b4)) :
  Calls Try.prog 20 #[.agg #[.int .i64 cp,.slice A l.length c],.slice a6 m.length a7] w fun e w'=>∃ v1_:Value,e=.returned (.tuple #[.agg #[.int .i64 a8,v1_],.int .i64 b4])∧Kd.N k33 33 w' w.heap.size (fun k_=>w.heap.size≤k_) v1_ a9∧bw w w':=by
 have hmf_:∀ (fn:Fn) (first cap:Array Value) (w:World),(Instr.makeFunc fn first cap).run Try.prog w=.ok (.func fn first cap) w:=fun _ _ _ _=>rfl
 have zer:∀ (wz:World) (g:Nat) (tm:Array Value) (q:Int),w.heap.size≤g→bw w wz→wz.heap[g]?=some (.cells #[.int .i64 0,.slice none 0 0] 24 (0,0))→Below w.heap.size w ((wz.setCell ⟨g,0,none⟩ (.int .i64 0)).setCell ⟨g,1,none⟩ (.slice none 0 0))∧((wz.setCell ⟨g,0,none⟩ (.int .i64 0)).setCell ⟨g,1,none⟩ (.slice none 0 0)).heap[g]?=some (.cells #[.int .i64 0,.slice none 0 0] 24 (0,0)):=fun wz g tm q hg hb hk=>⟨(hb.setCell (p:=⟨g,0,none⟩) hg _).setCell (p:=⟨g,1,none⟩) hg _,au (au hk 0 (.int .i64 0) rfl) 1 (.slice none 0 0) rfl⟩
 unfold Gzw.f at h;rw[Option.bind_eq_some_iff] at h;obtain⟨b6,hck,h⟩:=h;have HC:=aM hC;have HL:=aM hc;have b7:=aM hC1;have b8:=aM b5;have CK:=aM hck;have H:=aM h;have HB:=aM (Below.refl w.heap.size w);clear hC hc hC1 b5 hck h;go_enter Try.func20,Try.ntmps20
 go_upto_region 2 with (first|((with_reducible refine gd 2 rfl ?_);refine bx #[.int .i64 cp,.slice A l.length c] 24 ?_;intro b9 hg d6 d7 hb;have G2:=gA w hg;replace HB:=bB hb;clear hb hg)|((with_reducible refine gd 3 rfl ?_);refine bx #[.slice a6 m.length a7] 30 ?_;intro d8 hg d9 e6 hb;have G3:=gA w hg;replace d7:=kb d7 hb;replace HB:=bB hb;clear hb hg)|((with_reducible refine gd 4 rfl ?_);refine bx #[.int .i64 0,.slice none 0 0] 24 ?_;intro e7 hg f6 f7 hb;have G4:=gA w hg;have N2_4:=nl hg d7;have N4_2:=ng hg d7;have N3_4:=nl hg e6;have N4_3:=ng hg e6;replace d7:=kb d7 hb;replace e6:=kb e6 hb;replace HB:=bB hb;clear hb hg;obtain⟨f8,g5,g8,g9⟩:=bk2 d7)|((with_reducible refine df (f:=17) rfl ?_);refine gJ (some 9) rfl rfl Try.func17 (by kernel_rfl) rfl #[.agg #[.int .i64 cp,.slice A l.length c]] rfl (by first|exact mA|(simp [Act.eval];done)) ?_;refine(Azb.calls k cp A c l b6 _ (Kd.aT HC.out HB.out) HL.out CK.out).mono ?_;rintro e j3 ⟨rfl,hb⟩;refine⟨_,rfl,?_⟩;replace d7:=kb d7 hb;replace e6:=kb e6 hb;replace f7:=kb f7 hb;replace HB:=bB hb;clear hb f8 g5 g8 g9 CK))
 by_cases hr:b6=0
 ·subst hr;have h:=H.out;simp only[if_true] at h;rw[Option.bind_eq_some_iff] at h;obtain⟨j4,hfp,h⟩:=h;have FP:=aM hfp;replace H:=aM h;clear hfp h;obtain⟨f8,g5,g8,g9⟩:=bk2 d7;obtain⟨hdz0,hgz0⟩:=bk1 e6;go_upto_region 5 with (first|((with_reducible refine df (f:=43) rfl ?_);refine gJ (some 18) rfl rfl Try.func43 (by kernel_rfl) rfl #[.slice a6 m.length a7,.int .i64 (l.length:Int)] rfl (by first|exact mA|(simp [Act.eval];done)) ?_;refine(Gzk.calls k a6 a7 m (l.length:Int) j4 _ (Kd.aT b7.out HB.out) b8.out FP.out).mono ?_;rintro e j5 ⟨rfl,hb⟩;refine⟨_,rfl,?_⟩;replace d7:=kb d7 hb;replace e6:=kb e6 hb;replace f7:=kb f7 hb;replace HB:=bB hb;clear hb f8 g5 g8 g9 hdz0 hgz0 FP))
  by_cases hr:j4=0
  ·subst hr;have h:=H.out;simp only[if_true] at h;replace H:=aM h;clear h;obtain⟨f8,g5,g8,g9⟩:=bk2 d7;obtain⟨hdz0,hgz0⟩:=bk1 e6;have hfn:∃ fn,Try.prog.funcs[45]?=some fn∧(fn.name == "runtime.NumGoroutine")=false∧fn.body.isSome=true:=⟨_,Try.func45,by kernel_rfl,rfl⟩
   have HFN:=aM hfn;clear hfn;have hy:∀ (W0:World),bw w W0→W0.heap[d8]?=some (.cells #[.slice a6 m.length a7] 30 (0,0))→∀ (j:Nat) y W,j < l.length→rM k m j=some y→Below W0.heap.size W0 W→Calls Try.prog 45 (#[.int .i64 (j:Int)] ++ #[.pointer (some ⟨d8,0,none⟩)]) W fun e W'=>∃ a6 a7 j6 c2,e=.returned (.agg #[.bool y.f0,.slice a6 y.f1.length a7,.slice j6 y.f2.length c2])∧Below W.heap.size W W'∧y.f1.length≤a7∧(Kd.int .i64).C W' a6 y.f1.length y.f1∧y.f2.length≤c2∧(Kd.int .i64).C W' j6 y.f2.length y.f2:=by
    intro W0 j7 hk0 j y W hj hg hb;unfold rM at hg;rw[Option.bind_eq_some_iff] at hg;obtain⟨⟨j8,j9,l5⟩,ha,hg⟩:=hg;injection hg with hg
    subst hg;refine(Gzx.calls k (j:Int) (some ⟨d8,0,none⟩) 1 [m] j8 j9 l5 W (Kd.AB (aD hk0 hb) ⟨a6,a7,rfl,b8.out,Kd.aT b7.out (aX j7 j7.size hb)⟩) (Nat.le_refl _) ha).mono ?_;rintro e W' ⟨l6,l7,rfl,l8,l9,hb'⟩;obtain⟨B1,d1,rfl⟩:=Kd.aj l8;obtain⟨B2,d2,rfl⟩:=Kd.aj l9;exact⟨B1,d1,B2,d2,rfl,hb',(Kd.ax l8).2.1,(Kd.ax l8).2.2,(Kd.ax l9).2.1,(Kd.ax l9).2.2⟩
   have HY:=aM hy;clear hy;go_wp2_with (first|((with_reducible refine df (f:=44) rfl ?_);refine gJ (some 25) rfl rfl Try.func44 (by kernel_rfl) rfl #[.agg #[.int .i64 cp,.slice A l.length c],.func (.func 45) #[] #[.pointer (some ⟨d8,0,none⟩)]] rfl (by first|exact mA|(simp [Act.eval];done)) ?_;have L4:=aM (Kd.jB f7.out);refine(Gzv.calls k (rM k m) cp A c l 45 #[.pointer (some ⟨d8,0,none⟩)] a8 a9 b4 _ (Kd.aT HC.out HB.out) HL.out HFN.out (HY.out _ HB.out e6.out) H.out).mono ?_;rintro e m0 ⟨m4,rfl,hv,hb⟩;refine⟨_,rfl,?_⟩;replace f7:=kb f7 hb;have HV:=aM (Kd.aG (ok':=fun k_=>w.heap.size≤k_∧k_≠e7) (Kd.fq hv HB.out.size) (fun k_ hk_=>⟨Nat.le_trans HB.out.size hk_,L4.out k_ hk_⟩));replace HB:=bB hb;clear hb hv f8 g5 g8 g9 hdz0 hgz0;obtain⟨m5,c5,ev⟩:=Kd.ek HV.out;subst ev;obtain⟨hdz0,hdz1,hgz0,hgz1⟩:=bk2 f7))
   refine rC e7 24 #[.int .i64 a8,.slice m5 a9.length c5] (au (au f7.out 0 (.int .i64 a8) rfl) 1 (.slice m5 a9.length c5) rfl) Try.underlying24 ?_
   exact⟨_,rfl,Kd.aG (Kd.bJ (p:=⟨e7,1,none⟩) (Kd.bJ (p:=⟨e7,0,none⟩) HV.out (fun _ hk=>hk.2) (.int .i64 a8)) (fun _ hk=>hk.2) (.slice m5 a9.length c5)) (fun _ hk=>hk.1),(HB.out.setCell (p:=⟨e7,0,none⟩) G4.out _).setCell (p:=⟨e7,1,none⟩) G4.out _⟩
  ·have h:=H.out;simp only[if_neg hr] at h;injection h with h
   injection h with l8 h
   injection h with l9 m6
   subst l8 l9 m6;have m7:(j4 != 0)=true:=bne_iff_ne.mpr hr;obtain⟨hdz0,hdz1,hgz0,hgz1⟩:=bk2 f7;go_wp2
   obtain⟨zb,zk⟩:=zer _ e7 #[] 0 G4.out HB.out f7.out;refine rC e7 24 #[.int .i64 0,.slice none 0 0] zk Try.underlying24 ?_
   exact⟨_,rfl,Kd.fU _ _ _ _ _,zb⟩
 ·have h:=H.out;simp only[if_neg hr] at h;injection h with h
  injection h with l8 h
  injection h with l9 m6
  subst l8 l9 m6;have m7:(b6 != 0)=true:=bne_iff_ne.mpr hr;obtain⟨hdz0,hdz1,hgz0,hgz1⟩:=bk2 f7;go_wp2
  obtain⟨zb,zk⟩:=zer _ e7 #[] 0 G4.out HB.out f7.out;refine rC e7 24 #[.int .i64 0,.slice none 0 0] zk Try.underlying24 ?_
  exact⟨_,rfl,Kd.fU _ _ _ _ _,zb⟩
theorem qE (k:Nat) (g g':Nat→Option S33) (hg:∀ j,LeO (g j) (g' j)) (l:List S33) (j:Nat) (s:Unit):LeO (iR k g l j s) (iR (k+1) g' l j s):=LeO.bind (hg j) (fun y=>LeO.bind (Fzx.mono _ _ _ _ _ _ k) (fun _=>LeO.refl _))
theorem ku (k:Nat) (g g':Nat→Option S33) (hg:∀ j,LeO (g j) (g' j)) (cp:Int) (l:List S33):LeO (Gzv.f k g cp l) (Gzv.f (k+1) g' cp l):=by
 unfold Gzv.f;exact LeO.ite (LeO.bind (qc (fun j s=>qE k g g' hg l j s) _ _ _ _) (fun x=>LeO.ite (LeO.bind (Azb.mono _ _ k) (fun _=>LeO.refl _)) (LeO.refl _))) (LeO.refl _)
theorem Gzw.mono:∀ a6 a7 a8 k,LeO (Gzw.f k a6 a7 a8) (Gzw.f (k+1) a6 a7 a8):=by
 intro a6 a7 a8 k;unfold Gzw.f;exact LeO.bind (Azb.mono _ _ k) (fun _=>LeO.ite (LeO.bind (Gzk.mono _ _ k) (fun _=>LeO.ite (ku k _ _ (fun j=>LeO.bind (Gzx.mono _ _ k) (fun _=>LeO.refl _)) _ _) (LeO.refl _))) (LeO.refl _))

end Go.Proofs.Ytbnpcplckcipfaa.Print
