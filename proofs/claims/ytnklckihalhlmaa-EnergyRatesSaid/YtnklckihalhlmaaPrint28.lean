import Derived.Test.YtnklckihalhlmaaPrint0
import Derived.Test.YtnklckihalhlmaaPrint26
namespace Go.Proofs.Ytnklckihalhlmaa.Print
open Go.RowKit Go.Proofs.YtnklckihalhlmaaW.PrintWords Go.Proofs.YtnklckihalhlmaaW.PrintLast Go.Proofs.YtnklckihalhlmaaW.PrintMore
attribute [local go_sem] max2_int min2_int max_two min_two max_three min_three max_four min_four
set_option linter.unusedVariables false
set_option maxRecDepth 100000
set_option maxHeartbeats 8000000
set_option linter.unusedSimpArgs false

theorem goesvL_ {P:Program} {ops:Array Oper} {Q:Exit→Act→World→Prop} {rest:List Oper} {oi:Oper} {a:Act} {w:World} (N:Option Tmp) (hd:oi.dst=N) (hg:oi.guard=none) {f:FuncId} {caps:Array Value} {fn:Func} {c:Operand} {ts:Array TypeId} (hf:P.funcs[f]?=some fn) (hname:(fn.name == "runtime.NumGoroutine")=false) (hb:fn.body.isSome=true)
  (hop:oi.op=.call { callee:=.value c,args:=#[],argTypes:=ts }) (hc:a.eval c=.func (.func f) #[] caps)
  (h:Calls P f caps w fun e w'=>∃ v,e=.returned v∧wpList P ops Q rest (a.put N v) w'):wpList P ops Q (oi :: rest) a w:=by
 refine wpList_plain hg fun K hK=>?_
 have he:=enters_ hf hname hb caps w;have hrun:(execOp a.eval oi).run P w=.ok (.enter f caps) w:=by
  unfold execOp;simp [hop,resolve,hc,Deferred.ofValue,invoke,he]
 unfold Oper.wp;rw[hrun,Oper.upon_enter];refine h.mono fun e w'' hh=>?_
 obtain⟨v,rfl,hk⟩:=hh;subst hd;exact hK _ _ hk
/-- What 'products' does with functions one after the other. -/
structure Steps_ (xs:List (Nat × Array Value)) (ad:Addr) (I:Nat→World→Prop) (Q:Int→World→Prop):Prop where
 cell:∀ j W,I j W→∀ i x,xs[i]?=some x→W.cell? (ad.add i)=some (.func (.func x.1) #[] x.2)
 step:∀ j W x,I j W→xs[j]?=some x→(∃ fn,Try.prog.funcs[x.1]?=some fn∧(fn.name == "runtime.NumGoroutine")=false∧fn.body.isSome=true)∧Calls Try.prog x.1 x.2 W fun e W'=>∃ r:Int,e=.returned (.int .i64 r)∧(r=0→I (j+1) W')∧(r≠0→Q r W')
 done:∀ W,I xs.length W→Q 0 W
theorem Hzv.calls (xs:List (Nat × Array Value)) (ad:Addr) (c:Nat) (w:World) (I:Nat→World→Prop) (Q:Int→World→Prop) (hS:Steps_ xs ad I Q) (h0:I 0 w) (hn:xs.length < 4611686018427387904) :
  Calls Try.prog 62 #[.slice (some ad) xs.length c] w fun e w'=>∃ r:Int,e=.returned (.int .i64 r)∧Q r w':=by
 have HS:=aM hS;have H0:=aM h0;have HN:=aM hn;clear hS h0 hn;go_enter Try.func62,Try.ntmps62
 go_wp2
 go_loopg [8] (xs.length+1) (fun kq v8 w'=>∃ (j_:Nat),v8=.int .i64 (j_:Int)∧Aside0 (j_+kq=xs.length+1∧0 < kq)∧Aside0 (I j_ w'))
 case atStart=>exact⟨0,rfl,⟨by omega,by omega⟩,H0⟩
 case round =>
  obtain⟨j_,rfl,HJ,HI⟩:=hrel;cases gk with
  | zero=>exact absurd HJ.out.2 (by omega)
  | succ k1 =>
   by_cases c5:(j_:Int) < (xs.length:Int)
   ·have c5b0:=dE c5;have c5b1:decide (j_ < xs.length)=true:=dE (by omega)
    obtain⟨x_,hx_⟩:∃ x_,xs[j_]?=some x_:=⟨xs[j_]'(by omega),List.getElem?_eq_getElem (by omega)⟩
    have C5:=aM c5;clear c5;have hx8_0:=HS.out.cell j_ wr HI.out j_ x_ hx_;have HX:=aM hx_;clear hx_;have p8:(0:Int)≤(j_:Int):=by omega
    obtain⟨⟨fn_,hf_,hn_,hb_⟩,hC_⟩:=HS.out.step j_ wr x_ HI.out HX.out;have HF:=aM hf_;have HNM:=aM hn_;have HBD:=aM hb_;have HC:=aM hC_;clear hf_ hn_ hb_ hC_;go_wp2_with (first|(refine goesvL_ (some 13) rfl rfl (f:=x_.1) (caps:=x_.2) HF.out HNM.out HBD.out rfl (by first|rfl|(simp [Act.eval];done)) ?_;refine HC.out.mono ?_;rintro e w9 ⟨r_,rfl,hr0_,hr1_⟩;refine⟨_,rfl,?_⟩;have HR0:=aM hr0_;have HR1:=aM hr1_;clear hr0_ hr1_))
    ·rename_i hr_
     go_ret
     exact⟨r_,rfl,HR1.out (by simpa using hr_)⟩
    ·rename_i hr_
     go_roundg k1
     case measure=>omega
     case rel =>
      refine⟨j_+1,?_,⟨by have:=HJ.out;omega,by have:=HJ.out;have:=C5.out;omega⟩,⟨HR0.out (by simpa using hr_)⟩⟩
      have e_:wrap64 ((j_:Int)+1)=((j_+1:Nat):Int):=by have:=HN.out;have:=C5.out;unfold wrap64;omega
      rw[e_]
    all_goals (exfalso;have:=C5.out;omega)
   ·have c5b0:decide ((j_:Int) < (xs.length:Int))=false:=decide_eq_false c5;have c5b1:decide (j_ < xs.length)=false:=decide_eq_false (by omega)
    have C5:=aM c5;clear c5;go_wp2
    go_ret
    refine⟨_,rfl,HS.out.done _ ?_⟩;have e_:j_=xs.length:=by have:=C5.out;have:=HJ.out;omega
    rw[← e_];exact HI.out

/-- A function value that computes a product: where it lies,and what it has captured. -/
structure Thk (W:World) (b gp:Nat) (A:Option Addr) (n c:Nat) (A':Option Addr) (n' c':Nat):Prop where
 tp:W.heap[b]?=some (.cells #[.pointer (some ⟨gp,0,none⟩)] 81 (0,0))
 fa:W.heap[b+1]?=some (.cells #[.slice A n c] 37 (0,0))
 fb:W.heap[b+2]?=some (.cells #[.slice A' n' c'] 37 (0,0))
 lt:gp < b
theorem Thk.below {W W1:World} {b gp n c n' c':Nat} {A A':Option Addr} (h:Thk W b gp A n c A' n' c') (hb:Below W.heap.size W W1):Thk W1 b gp A n c A' n' c' :=
 ⟨(hb.block _ (Array.getElem?_eq_some_iff.1 h.tp).1).trans h.tp,(hb.block _ (Array.getElem?_eq_some_iff.1 h.fa).1).trans h.fa,(hb.block _ (Array.getElem?_eq_some_iff.1 h.fb).1).trans h.fb,h.lt⟩
theorem Thk.keep {W W1:World} {b gp n c n' c':Nat} {A A':Option Addr} (h:Thk W b gp A n c A' n' c') (h0:W1.heap[b]?=W.heap[b]?) (h1:W1.heap[b+1]?=W.heap[b+1]?) (h2:W1.heap[b+2]?=W.heap[b+2]?):Thk W1 b gp A n c A' n' c' :=
 ⟨h0.trans h.tp,h1.trans h.fa,h2.trans h.fb,h.lt⟩
def thkFn (f b:Nat):Nat × Array Value:=(f,#[.pointer (some ⟨b+1,0,none⟩),.pointer (some ⟨b+2,0,none⟩),.pointer (some ⟨b,0,none⟩)])
theorem Gzz.calls (gp:Nat) (A:Option Addr) (n c:Nat) (A':Option Addr) (n' c':Nat) (w:World) (hgp:gp < w.heap.size) :
  Calls Try.prog 63 #[.pointer (some ⟨gp,0,none⟩),.slice A n c,.slice A' n' c'] w fun e w'=>∃ b,e=.returned (.func (.func (thkFn 81 b).1) #[] (thkFn 81 b).2)∧Thk w' b gp A n c A' n' c'∧w.heap.size≤b∧Below w.heap.size w w':=by
 have hmf_:∀ (fn:Fn) (first cap:Array Value) (w:World),(Instr.makeFunc fn first cap).run Try.prog w=.ok (.func fn first cap) w:=fun _ _ _ _=>rfl
 have HGP:=aM hgp;clear hgp;go_enter Try.func63,Try.ntmps63
 go_wp2
 go_ret
 refine⟨w.heap.size,rfl,⟨?_,?_,?_,HGP.out⟩,Nat.le_refl _,?_⟩
 ·exact blk_alloc (blk_alloc (blk_new w _) _) _
 ·have:=blk_alloc (blk_new (w.alloc (Obj.cells #[Value.pointer (some { block:=gp,off:=0 })] 81)) (Obj.cells #[.slice A n c] 37)) (.cells #[.slice A' n' c'] 37);simpa using this
 ·have:=blk_new (((w.alloc (Obj.cells #[Value.pointer (some { block:=gp,off:=0 })] 81)).alloc (Obj.cells #[Value.slice A n c] 37))) (Obj.cells #[.slice A' n' c'] 37);simpa using this
 ·exact(((Below.refl _ _).alloc (Nat.le_refl _) _).alloc (by simp) _).alloc (by simp;omega) _
/-- The step that computes a product. -/
theorem Hzz.calls (k b gp:Nat) (A:Option Addr) (c:Nat) (l:List Int) (A':Option Addr) (c':Nat) (l':List Int) (u:Value) (r1:List Int) (r2:Int) (w:World) (hT:Thk w b gp A l.length c A' l'.length c') (hp:w.heap[gp]?=some (.cells #[u] 37 (0,0)))
  (hr0:Kd.C (Kd.int .i64) w A l.length l) (hc0:l.length≤c) (hr1:Kd.C (Kd.int .i64) w A' l'.length l') (hc1:l'.length≤c') (h:Dzw.f k l l'=some (r1,r2)) :
  Calls Try.prog (thkFn 81 b).1 (thkFn 81 b).2 w fun e w'=>∃ (w1:World) (v:Value),e=.returned (.int .i64 r2)∧w'=w1.setCell ⟨gp,0,none⟩ v∧Kd.R (Kd.int .i64) 3 w1 w.heap.size (fun _=>True) v r1∧Below w.heap.size w w1:=by
 have HA:=aM h;have HR0:=aM hr0;have HC0:=aM hc0;have HR1:=aM hr1;have HC1:=aM hc1;have HT:=aM hT;have HP:=aM hp;have HB:=aM (Below.refl w.heap.size w);have h1:=(blk_cell hT.tp 0).trans rfl;have h2:=(blk_cell hT.fa 0).trans rfl;have h3:=(blk_cell hT.fb 0).trans rfl;clear h hr0 hc0 hr1 hc1 hT hp;show Calls Try.prog 81 #[.pointer (some ⟨b+1,0,none⟩),.pointer (some ⟨b+2,0,none⟩),.pointer (some ⟨b,0,none⟩)] w _
 go_enter Try.func81,Try.ntmps81
 go_wp2_with (first|((with_reducible refine gc 82 rfl ?_);refine gC 82 (some 9) Try.func82 #[.slice A l.length c,.slice A' l'.length c'] ?_;(with_reducible refine(Dzw.calls k _ _ l _ _ l' r1 r2 _ ?side1 ?side2 ?side3 ?side4 HA.out).mono ?_);(case side1=>exact HR0.out);(case side2=>exact HC0.out);(case side3=>exact HR1.out);(case side4=>exact HC1.out);rintro e w10 ⟨v343,rfl,ho0,hb⟩;refine⟨_,rfl,?_⟩;obtain⟨Ao_,co_,eo_⟩:=Kd.R_slice ho0;subst eo_;have HO:=aM ho0;have HP1:=kb HP hb;have h4:=(blk_cell (kB (aM HT.out.tp) hb) 0).trans rfl;have h5:=(blk_cell HP1.out 0).trans rfl;have h6:=blk_frozen HP1.out 0;replace HB:=aM hb;clear hb ho0))
 go_ret
 exact⟨_,_,rfl,rfl,HO.out,HB.out⟩
/-- What the pure text tells of a step's making: nothing. -/
def Gzz.f (_:Unit) (_ _:List Int):Option Int:=some 0
theorem fun_lit_step {P:Program} {ops:Array Oper} {Q:Exit→Act→World→Prop} {o:Oper} {a:Act} {Kc:Act→World→Prop} {W:World} (hw:Region.wanted o (yielded ops a.tmps)=true) {N:Tmp} (_hd:o.dst=some N) {cs:Array Value} {t:TypeId} {n:Nat}
  (hrun:(execOp a.eval o).run P W=.ok (.value (.slice (some ⟨W.heap.size,0,none⟩) n n)) (W.alloc (.cells cs t (0,0))))
  (h:∀ g w1,w1.heap[g]?=some (.cells cs t (0,0))→Below W.heap.size W w1→Kc (a.put o.dst (.slice (some ⟨g,0,none⟩) n n)) w1):if Region.wanted o (yielded ops a.tmps)=true then Oper.wp P o a W Kc Q else Kc (a.put o.dst undef) W :=
 event_step hw hrun (h _ _ (blk_new W _) (below_alloc (Below.refl _ _) _))
theorem V_keptC {W W_:World} {e base n c:Nat} {ok S:Nat→Prop} {A:Option Addr} {xs:List Int} (h:Kd.V (Kd.int .i64) e W base ok (.slice A n c) xs) (hk:Kept W W_ S) (hne:∀ k,ok k→¬ S k):Kd.C (Kd.int .i64) W_ A n xs:=by
 obtain⟨hn,_,_⟩:=Kd.V_reads' h;have h1:=Kd.V_reads' (Kd.V_step h (fun k hk1 hk2=>hk.2 k hk2 (hne k hk1)))
 rw[hn];exact h1.2.2
theorem C_V {w:World} {e base n c:Nat} {A:Option Addr} {xs:List Int} (h:Kd.C (Kd.int .i64) w A n xs) (hc:n≤c):Kd.V (Kd.int .i64) e w base (fun _=>True) (.slice A n c) xs:=by
 have hn:=h.1;subst hn;refine⟨A,c,rfl,hc,fun W' hW=>⟨h.1,h.2.1,fun hp=>?_⟩⟩
 obtain⟨ad,e1,h2⟩:=h.2.2 hp;refine⟨ad,e1,fun j q hj=>?_⟩
 obtain⟨cs,h3,h4,h5⟩:=h2 j q hj;refine⟨cs,h3,h4,fun i u hu=>?_⟩
 have h6:=h5 i u hu;have h7:=hW _ trivial (World.block_lt_of_cell? w _ h6);rw[← h6];simp only[World.cell?,h7]
/-- What two steps one after the other come to. -/
def Ezy.f (k:Nat) (l1 l1' l2 l2':List Int):Option (Int × List Int × List Int):=(Dzw.f k l1 l1').bind fun x=>if x.2=0 then(Dzw.f k l2 l2').bind fun y=>some (y.2,x.1,y.1) else some (x.2,x.1,([]:List Int))
theorem Ezy.mono:∀ a0 a1 a2 a3 k,LeO (Ezy.f k a0 a1 a2 a3) (Ezy.f (k+1) a0 a1 a2 a3):=by
 intro a0 a1 a2 a3 k;unfold Ezy.f;exact LeO.bind (Dzw.mono _ _ k) (fun _=>LeO.ite (LeO.bind (Dzw.mono _ _ k) (fun _=>LeO.refl _)) (LeO.refl _))
theorem kept_far {w w1:World} {S:Nat→Prop} {B g:Nat} (h:Below B w w1) (hB:w.heap.size≤B) (hg:S g) (v:Value):Kept w (w1.setCell ⟨g,0,none⟩ v) S :=
 Kept.setCell (p:=⟨g,0,none⟩) ⟨h.size,fun i hi _=>h.block i (Nat.lt_of_lt_of_le hi hB)⟩ (.inl hg) v
theorem kept_trans {a b c:World} {S:Nat→Prop} (h:Kept a b S) (h':Kept b c S):Kept a c S :=
 ⟨Nat.le_trans h.1 h'.1,fun i hi hn=>(h'.2 i (Nat.lt_of_lt_of_le hi h.1) hn).trans (h.2 i hi hn)⟩
/-- What two products leave. -/
structure Fin2 (w0 w W:World) (gp gq:Nat) (vp vq:Value) (x y:List Int):Prop where
 p:W.heap[gp]?=some (.cells #[vp] 37 (0,0))
 q:W.heap[gq]?=some (.cells #[vq] 37 (0,0))
 rp:Kd.R (Kd.int .i64) 3 W w0.heap.size (fun k_=>w.heap.size≤k_∧some k_≠vq.ownBlock) vp x
 rq:Kd.R (Kd.int .i64) 3 W w0.heap.size (fun k_=>w.heap.size≤k_∧some k_≠vp.ownBlock) vq y
 below:Below w0.heap.size w0 W
 kept:Kept w W (fun k_=>k_=gp∨k_=gq)
theorem below_far {B:Nat} {w0 w w1:World} {g:Nat} (h:Below B w0 w) (hB:B≤w.heap.size) (h1:Below w.heap.size w w1) (hg:B≤g) (v:Value):Below B w0 (w1.setCell ⟨g,0,none⟩ v) :=
 Below.setCell (below_then h hB h1) hg v
set_option maxHeartbeats 2000000 in
theorem Ezy.calls (k b1 b2 gp gq:Nat) (A1:Option Addr) (c1:Nat) (l1:List Int) (A1':Option Addr) (c1':Nat) (l1':List Int) (A2:Option Addr) (c2:Nat) (l2:List Int) (A2':Option Addr) (c2':Nat) (l2':List Int) (r1:Int) (r2 r3:List Int) (g cg:Nat) (w0 w:World) (hB:Below w0.heap.size w0 w)
  (hg:w.heap[g]?=some (.cells #[.func (.func (thkFn 81 b1).1) #[] (thkFn 81 b1).2,.func (.func (thkFn 81 b2).1) #[] (thkFn 81 b2).2] 79 (0,0)))
  (hT1:Thk w b1 gp A1 l1.length c1 A1' l1'.length c1') (hT2:Thk w b2 gq A2 l2.length c2 A2' l2'.length c2') (hp:w.heap[gp]?=some (.cells #[.slice none 0 0] 37 (0,0))) (hq:w.heap[gq]?=some (.cells #[.slice none 0 0] 37 (0,0))) (hne:gp≠gq) (hgp:w0.heap.size≤gp) (hgq:w0.heap.size≤gq) (hl1:gp < b2) (hl2:gq < b1)
  (hA1:∀ W_,Kept w W_ (fun k_=>k_=gp∨k_=gq)→Kd.C (Kd.int .i64) W_ A1 l1.length l1) (hc1:l1.length≤c1) (hA1':∀ W_,Kept w W_ (fun k_=>k_=gp∨k_=gq)→Kd.C (Kd.int .i64) W_ A1' l1'.length l1') (hc1':l1'.length≤c1')
  (hA2:∀ W_,Kept w W_ (fun k_=>k_=gp∨k_=gq)→Kd.C (Kd.int .i64) W_ A2 l2.length l2) (hc2:l2.length≤c2) (hA2':∀ W_,Kept w W_ (fun k_=>k_=gp∨k_=gq)→Kd.C (Kd.int .i64) W_ A2' l2'.length l2') (hc2':l2'.length≤c2')
  (h:Ezy.f k l1 l1' l2 l2'=some (r1,r2,r3)) :
  Calls Try.prog 62 #[.slice (some ⟨g,0,none⟩) 2 cg] w fun e w'=>e=.returned (.int .i64 r1)∧∃ vp vq:Value,Fin2 w0 w w' gp gq vp vq r2 r3:=by
 have hfn:∃ fn,Try.prog.funcs[81]?=some fn∧(fn.name == "runtime.NumGoroutine")=false∧fn.body.isSome=true:=⟨_,Try.func81,by kernel_rfl,rfl⟩
 have hgl:=blk_lt hg;have hgne:g≠gp∧g≠gq:=⟨blk_ne hg hp (by decide),blk_ne hg hq (by decide)⟩
 have hK1:∀ (w1:World) (v:Value),Below w.heap.size w w1→Kept w (w1.setCell ⟨gp,0,none⟩ v) (fun k_=>k_=gp∨k_=gq):=fun w1 v hb=>kept_far hb (Nat.le_refl _) (.inl rfl) v
 have hfar:∀ (W:World) (i:Nat) (o:Obj),Kept w W (fun k_=>k_=gp∨k_=gq)→i≠gp→i≠gq→w.heap[i]?=some o→W.heap[i]?=some o:=fun W i o hk h1 h2 ho=>blk_kept ho hk (fun e=>e.elim h1 h2)
 have hBs:=hB.size;let I:Nat→World→Prop:=fun j W=>Kept w W (fun k_=>k_=gp∨k_=gq)∧match j with
  | 0=>W=w
  | 1=>∃ (w1:World) (v:Value) (x:List Int),W=w1.setCell ⟨gp,0,none⟩ v∧Dzw.f k l1 l1'=some (x,0)∧Kd.R (Kd.int .i64) 3 w1 w.heap.size (fun _=>True) v x∧Below w.heap.size w w1
  | _=>∃ (vp vq:Value) (x y:List Int),Fin2 w0 w W gp gq vp vq x y∧Ezy.f k l1 l1' l2 l2'=some (0,x,y)
 let Qr:Int→World→Prop:=fun r W=>∃ (vp vq:Value) (x y:List Int),Fin2 w0 w W gp gq vp vq x y∧Ezy.f k l1 l1' l2 l2'=some (r,x,y)
 have hS:Steps_ [thkFn 81 b1,thkFn 81 b2] ⟨g,0,none⟩ I Qr:=by
  refine⟨fun j W hI i x hx=>?_,fun j W x hI hx=>?_,fun W hI=>hI.2⟩
  ·rw[add_plain];have h1:=hfar W g _ hI.1 hgne.1 hgne.2 hg;rw[blk_cell h1 i];match i,hx with
   | 0,hx=>cases hx;rfl
   | 1,hx=>cases hx;rfl
   | i+2,hx=>simp at hx
  ·match j,hx,hI with
   | 0,hx,hI =>
    cases hx
    obtain⟨hk,hw⟩:=hI;cases hw
    refine⟨hfn,?_⟩;unfold Ezy.f at h;rw[Option.bind_eq_some_iff] at h;obtain⟨⟨x,e1⟩,hm,h⟩:=h;refine(Hzz.calls k b1 gp A1 c1 l1 A1' c1' l1' _ x e1 w hT1 hp (hA1 w hk) hc1 (hA1' w hk) hc1' hm).mono ?_;rintro e W' ⟨w1,v,rfl,rfl,hR,hb⟩;refine⟨e1,rfl,fun e0=>⟨hK1 w1 v hb,w1,v,x,rfl,e0 ▸ hm,hR,hb⟩,fun e0=>?_⟩
    have hp1:w1.heap[gp]?=some (.cells #[.slice none 0 0] 37 (0,0)):=(hb.block gp (blk_lt hp)).trans hp;have hq1:w1.heap[gq]?=some (.cells #[.slice none 0 0] 37 (0,0)):=(hb.block gq (blk_lt hq)).trans hq;refine⟨v,.slice none 0 0,x,[],⟨blk_put hp1 0 v rfl,blk_far hq1 (Ne.symm hne) v,?_,Kd.R_nil _ _ _ _ _,below_far hB hBs hb hgp v,hK1 w1 v hb⟩,?_⟩
    ·refine Kd.R_mono (Kd.R_far (p:=⟨gp,0,none⟩) (ok:=fun k_=>w.heap.size≤k_) (Kd.R_lower (Kd.R_reok rfl hR (fun k_ hk_=>Kd.R_base hR k_ hk_)) hBs) (fun k_ hk_ e_=>?_) v) (fun k_ hk_=>⟨hk_,by simp [Value.ownBlock]⟩)
     have:=blk_lt hp;subst e_;omega
    ·unfold Ezy.f;rw[hm];simp only[Option.bind_some];rw[if_neg e0]
   | 1,hx,hI =>
    cases hx
    obtain⟨hk,w1,v,x,rfl,hm,hR,hb⟩:=hI;refine⟨hfn,?_⟩;unfold Ezy.f at h;rw[Option.bind_eq_some_iff] at h;obtain⟨⟨x',e1⟩,hm',h⟩:=h;rw[hm] at hm';cases hm'
    simp only[if_true] at h;rw[Option.bind_eq_some_iff] at h;obtain⟨⟨y,e2⟩,hm2,h⟩:=h;have hp1:w1.heap[gp]?=some (.cells #[.slice none 0 0] 37 (0,0)):=(hb.block gp (blk_lt hp)).trans hp;have hq1:(w1.setCell ⟨gp,0,none⟩ v).heap[gq]?=some (.cells #[.slice none 0 0] 37 (0,0)):=blk_far ((hb.block gq (blk_lt hq)).trans hq) (Ne.symm hne) v;have hT2':Thk (w1.setCell ⟨gp,0,none⟩ v) b2 gq A2 l2.length c2 A2' l2'.length c2':=⟨hfar _ _ _ hk (by omega) (by have:=hT2.lt;omega) hT2.tp,hfar _ _ _ hk (by omega) (by have:=hT2.lt;omega) hT2.fa,hfar _ _ _ hk (by omega) (by have:=hT2.lt;omega) hT2.fb,hT2.lt⟩
    refine(Hzz.calls k b2 gq A2 c2 l2 A2' c2' l2' _ y e2 _ hT2' hq1 (hA2 _ hk) hc2 (hA2' _ hk) hc2' hm2).mono ?_;rintro e W' ⟨w2,u,rfl,rfl,hR2,hb2⟩;have hps:gp < w.heap.size:=blk_lt hp;have hqs:gq < w.heap.size:=blk_lt hq;have hs1:w.heap.size≤(w1.setCell ⟨gp,0,none⟩ v).heap.size:=hk.1;have hRv:Kd.R (Kd.int .i64) 3 (w1.setCell ⟨gp,0,none⟩ v) w.heap.size (fun k_=>w.heap.size≤k_) v x:=Kd.R_far (p:=⟨gp,0,none⟩) (Kd.R_reok rfl hR (fun k_ hk_=>Kd.R_base hR k_ hk_)) (fun k_ hk_ e_=>by subst e_;omega) v
    have hkk:Kept w (w2.setCell ⟨gq,0,none⟩ u) (fun k_=>k_=gp∨k_=gq):=kept_trans hk (kept_far hb2 (Nat.le_refl _) (.inr rfl) u)
    have hFin:Fin2 w0 w (w2.setCell ⟨gq,0,none⟩ u) gp gq v u x y:=by
     refine⟨blk_far ((hb2.block gp (by omega)).trans (blk_put hp1 0 v rfl)) hne u,blk_put ((hb2.block gq (by omega)).trans hq1) 0 u rfl,?_,?_,below_far (below_far hB hBs hb hgp v) (by omega) hb2 hgq u,hkk⟩
     ·refine Kd.R_far (p:=⟨gq,0,none⟩) ?_ (fun k_ hk_ e_=>by subst e_;omega) u
      exact Kd.R_lower (Kd.R_elder' (rX hRv) (fun k_ hk_=>Kd.R_base hR2 k_ hk_) hb2) hBs
     ·refine Kd.R_far (p:=⟨gq,0,none⟩) ?_ (fun k_ hk_ e_=>by subst e_;omega) u
      refine Kd.R_lower (Kd.R_reok rfl hR2 (fun k_ hk_=>⟨Nat.le_trans hs1 (Kd.R_base hR2 k_ hk_),fun e_=>?_⟩)) (by omega)
      have:=Kd.R_lt hRv k_ e_.symm;have:=Kd.R_base hR2 k_ hk_;omega
    have hf2:Ezy.f k l1 l1' l2 l2'=some (e2,x,y):=by
     unfold Ezy.f;rw[hm];simp only[Option.bind_some,if_true];rw[hm2];rfl
    exact⟨e2,rfl,fun e0=>⟨hkk,v,u,x,y,hFin,by rw[hf2,e0]⟩,fun _=>⟨v,u,x,y,hFin,hf2⟩⟩
   | j+2,hx,hI=>simp at hx
 have hI0:I 0 w:=⟨⟨Nat.le_refl _,fun _ _ _=>rfl⟩,rfl⟩
 refine(Hzv.calls [thkFn 81 b1,thkFn 81 b2] ⟨g,0,none⟩ cg w I Qr hS hI0 (by simp)).mono ?_
 rintro e w' ⟨r,rfl,vp,vq,x,y,hF,hf⟩;rw[h] at hf;cases hf
 exact⟨rfl,vp,vq,hF⟩



end Go.Proofs.Ytnklckihalhlmaa.Print
