import Derived.Test.YtbnpcplckcipfaaPrint0
import Derived.Test.YtbnpcplckcipfaaPrint15
namespace Go.Proofs.Ytbnpcplckcipfaa.Print
open Go.RowKit Go.Proofs.YtbnpcplckcipfaaW.PrintWords Go.Proofs.YtbnpcplckcipfaaW.PrintLast Go.Proofs.YtbnpcplckcipfaaW.PrintMore
attribute [local go_sem] max2_int min2_int max_two min_two max_three min_three max_four min_four
set_option linter.unusedVariables false
set_option maxRecDepth 100000
set_option maxHeartbeats 8000000
set_option linter.unusedSimpArgs false

theorem goesvL_ {P:Program} {ops:Array Oper} {Q:Exit→Act→World→Prop} {rest:List Oper} {oi:Oper} {a:Act} {w:World} (N:Option Tmp) (hd:oi.dst=N) (hg:oi.guard=none) {f:FuncId} {caps:Array Value} {fn:Func} {c:Operand} {ts:Array TypeId} (hf:P.funcs[f]?=some fn) (hname:(fn.name == "runtime.NumGoroutine")=false) (hb:fn.body.isSome=true)
  (hop:oi.op=.call { callee:=.value c,args:=#[],argTypes:=ts }) (hc:a.eval c=.func (.func f) #[] caps)
  (h:Calls P f caps w fun e w'=>∃ v,e=.returned v∧wpList P ops Q rest (a.put N v) w'):wpList P ops Q (oi :: rest) a w:=by
 refine wpList_plain hg fun K hK=>?_
 have he:=enters_ hf hname hb caps w;have hrun:(execOp a.eval oi).run P w=.ok (.enter f caps) w:=by
  unfold execOp;simp [hop,resolve,hc,Deferred.ofValue,invoke,he]
 unfold Oper.wp;rw[hrun,Oper.upon_enter];refine h.mono fun e w'' hh=>?_
 obtain⟨v,rfl,hk⟩:=hh;subst hd;exact hK _ _ hk
/-- What 'products' does with functions one after the other. -/
structure Steps_ (xs:List (Nat × Array Value)) (ad:Addr) (I:Nat→World→Prop) (Q:Int→World→Prop):Prop where
 cell:∀ j W,I j W→∀ i x,xs[i]?=some x→W.cell? (ad.add i)=some (.func (.func x.1) #[] x.2)
 step:∀ j W x,I j W→xs[j]?=some x→(∃ fn,Try.prog.funcs[x.1]?=some fn∧(fn.name == "runtime.NumGoroutine")=false∧fn.body.isSome=true)∧Calls Try.prog x.1 x.2 W fun e W'=>∃ r:Int,e=.returned (.int .i64 r)∧(r=0→I (j+1) W')∧(r≠0→Q r W')
 done:∀ W,I xs.length W→Q 0 W
theorem Gzm.calls (xs:List (Nat × Array Value)) (ad:Addr) (c:Nat) (w:World) (I:Nat→World→Prop) (Q:Int→World→Prop) (hS:Steps_ xs ad I Q) (a6:I 0 w) (hn:xs.length < 4611686018427387904) :
  Calls Try.prog 67 #[.slice (some ad) xs.length c] w fun e w'=>∃ r:Int,e=.returned (.int .i64 r)∧Q r w':=by
 have HS:=aM hS;have H0:=aM a6;have HN:=aM hn;clear hS a6 hn;go_enter Try.func67,Try.ntmps67
 go_wp2
 go_loopg [8] (xs.length+1) (fun kq a7 w'=>∃ (j_:Nat),a7=.int .i64 (j_:Int)∧Aside0 (j_+kq=xs.length+1∧0 < kq)∧Aside0 (I j_ w'))
 case atStart=>exact⟨0,rfl,⟨by omega,by omega⟩,H0⟩
 case round =>
  obtain⟨j_,rfl,HJ,HI⟩:=hrel;cases gk with
  | zero=>exact absurd HJ.out.2 (by omega)
  | succ k1 =>
   by_cases c5:(j_:Int) < (xs.length:Int)
   ·have a8:=dE c5;have a9:decide (j_ < xs.length)=true:=dE (by omega)
    obtain⟨x_,hx_⟩:∃ x_,xs[j_]?=some x_:=⟨xs[j_]'(by omega),List.getElem?_eq_getElem (by omega)⟩
    have b4:=aM c5;clear c5;have b5:=HS.out.cell j_ wr HI.out j_ x_ hx_;have HX:=aM hx_;clear hx_;have b6:(0:Int)≤(j_:Int):=by omega
    obtain⟨⟨fn_,hf_,hn_,hb_⟩,hC_⟩:=HS.out.step j_ wr x_ HI.out HX.out;have HF:=aM hf_;have HNM:=aM hn_;have HBD:=aM hb_;have HC:=aM hC_;clear hf_ hn_ hb_ hC_;go_wp2_with (first|(refine goesvL_ (some 13) rfl rfl (f:=x_.1) (caps:=x_.2) HF.out HNM.out HBD.out rfl (by first|rfl|(simp [Act.eval];done)) ?_;refine HC.out.mono ?_;rintro e b7 ⟨r_,rfl,b8,b9⟩;refine⟨_,rfl,?_⟩;have d6:=aM b8;have d7:=aM b9;clear b8 b9))
    ·rename_i hr_
     go_ret
     exact⟨r_,rfl,d7.out (by simpa using hr_)⟩
    ·rename_i hr_
     go_roundg k1
     case measure=>omega
     case rel =>
      refine⟨j_+1,?_,⟨by have:=HJ.out;omega,by have:=HJ.out;have:=b4.out;omega⟩,⟨d6.out (by simpa using hr_)⟩⟩
      have e_:wrap64 ((j_:Int)+1)=((j_+1:Nat):Int):=by have:=HN.out;have:=b4.out;unfold wrap64;omega
      rw[e_]
    all_goals (exfalso;have:=b4.out;omega)
   ·have a8:decide ((j_:Int) < (xs.length:Int))=false:=decide_eq_false c5;have a9:decide (j_ < xs.length)=false:=decide_eq_false (by omega)
    have b4:=aM c5;clear c5;go_wp2
    go_ret
    refine⟨_,rfl,HS.out.done _ ?_⟩;have e_:j_=xs.length:=by have:=b4.out;have:=HJ.out;omega
    rw[← e_];exact HI.out

/-- A function value that computes a product: where it lies,and what it has captured. -/
structure Thk (W:World) (b gp:Nat) (A:Option Addr) (n c:Nat) (A':Option Addr) (n' c':Nat):Prop where
 tp:W.heap[b]?=some (.cells #[.pointer (some ⟨gp,0,none⟩)] 82 (0,0))
 fa:W.heap[b+1]?=some (.cells #[.slice A n c] 31 (0,0))
 fb:W.heap[b+2]?=some (.cells #[.slice A' n' c'] 31 (0,0))
 lt:gp < b
theorem Thk.below {W W1:World} {b gp n c n' c':Nat} {A A':Option Addr} (h:Thk W b gp A n c A' n' c') (hb:Below W.heap.size W W1):Thk W1 b gp A n c A' n' c' :=
 ⟨(hb.block _ (Array.getElem?_eq_some_iff.1 h.tp).1).trans h.tp,(hb.block _ (Array.getElem?_eq_some_iff.1 h.fa).1).trans h.fa,(hb.block _ (Array.getElem?_eq_some_iff.1 h.fb).1).trans h.fb,h.lt⟩
theorem Thk.keep {W W1:World} {b gp n c n' c':Nat} {A A':Option Addr} (h:Thk W b gp A n c A' n' c') (a6:W1.heap[b]?=W.heap[b]?) (a7:W1.heap[b+1]?=W.heap[b+1]?) (a8:W1.heap[b+2]?=W.heap[b+2]?):Thk W1 b gp A n c A' n' c' :=
 ⟨a6.trans h.tp,a7.trans h.fa,a8.trans h.fb,h.lt⟩
def thkFn (f b:Nat):Nat × Array Value:=(f,#[.pointer (some ⟨b+1,0,none⟩),.pointer (some ⟨b+2,0,none⟩),.pointer (some ⟨b,0,none⟩)])
theorem Dzw.calls (gp:Nat) (A:Option Addr) (n c:Nat) (A':Option Addr) (n' c':Nat) (w:World) (hgp:gp < w.heap.size) :
  Calls Try.prog 68 #[.pointer (some ⟨gp,0,none⟩),.slice A n c,.slice A' n' c'] w fun e w'=>∃ b,e=.returned (.func (.func (thkFn 96 b).1) #[] (thkFn 96 b).2)∧Thk w' b gp A n c A' n' c'∧w.heap.size≤b∧bw w w':=by
 have hmf_:∀ (fn:Fn) (first cap:Array Value) (w:World),(Instr.makeFunc fn first cap).run Try.prog w=.ok (.func fn first cap) w:=fun _ _ _ _=>rfl
 have HGP:=aM hgp;clear hgp;go_enter Try.func68,Try.ntmps68
 go_wp2
 go_ret
 refine⟨w.heap.size,rfl,⟨?_,?_,?_,HGP.out⟩,Nat.le_refl _,?_⟩
 ·exact blk_alloc (blk_alloc (blk_new w _) _) _
 ·have:=blk_alloc (blk_new (w.alloc (Obj.cells #[Value.pointer (some { block:=gp,off:=0 })] 82)) (Obj.cells #[.slice A n c] 31)) (.cells #[.slice A' n' c'] 31);simpa using this
 ·have:=blk_new (((w.alloc (Obj.cells #[Value.pointer (some { block:=gp,off:=0 })] 82)).alloc (Obj.cells #[Value.slice A n c] 31))) (Obj.cells #[.slice A' n' c'] 31);simpa using this
 ·exact(((Below.refl _ _).alloc (Nat.le_refl _) _).alloc (by simp) _).alloc (by simp;omega) _
/-- The step that computes a product. -/
theorem Gzz.calls (k b gp:Nat) (A:Option Addr) (c:Nat) (l:List Int) (A':Option Addr) (c':Nat) (l':List Int) (u:Value) (a6:List Int) (a7:Int) (w:World) (hT:Thk w b gp A l.length c A' l'.length c') (hp:w.heap[gp]?=some (.cells #[u] 31 (0,0)))
  (a8:cI w A l) (a9:l.length≤c) (b4:Kd.C (Kd.int .i64) w A' l'.length l') (b5:l'.length≤c') (h:Bzp.f k l l'=some (a6,a7)) :
  Calls Try.prog (thkFn 96 b).1 (thkFn 96 b).2 w fun e w'=>∃ (b6:World) (v:Value),e=.returned (.int .i64 a7)∧w'=b6.setCell ⟨gp,0,none⟩ v∧rI b6 w (fun _=>True) v a6∧bw w b6:=by
 have HA:=aM h;have b7:=aM a8;have b8:=aM a9;have b9:=aM b4;have d6:=aM b5;have HT:=aM hT;have HP:=aM hp;have HB:=aM (Below.refl w.heap.size w);have d7:=(blk_cell hT.tp 0).trans rfl;have d8:=(blk_cell hT.fa 0).trans rfl;have d9:=(blk_cell hT.fb 0).trans rfl;clear h a8 a9 b4 b5 hT hp;show Calls Try.prog 96 #[.pointer (some ⟨b+1,0,none⟩),.pointer (some ⟨b+2,0,none⟩),.pointer (some ⟨b,0,none⟩)] w _
 go_enter Try.func96,Try.ntmps96
 go_wp2_with (first|((with_reducible refine gc 97 rfl ?_);refine gC 97 (some 9) Try.func97 #[.slice A l.length c,.slice A' l'.length c'] ?_;(with_reducible refine(Bzp.calls k _ _ l _ _ l' a6 a7 _ ?_ ?_ ?_ ?_ HA.out).mono ?_);exact b7.out;exact b8.out;exact b9.out;exact d6.out;rintro e e6 ⟨e7,rfl,e8,hb⟩;refine⟨_,rfl,?_⟩;obtain⟨Ao_,co_,eo_⟩:=Kd.R_slice e8;subst eo_;have HO:=aM e8;have e9:=kb HP hb;have f3:=(blk_cell (kB (aM HT.out.tp) hb) 0).trans rfl;have f4:=(blk_cell e9.out 0).trans rfl;have f5:=blk_frozen e9.out 0;replace HB:=aM hb;clear hb e8))
 go_ret
 exact⟨_,_,rfl,rfl,HO.out,HB.out⟩
/-- What the pure text tells of a step's making: nothing. -/
def Dzw.f (_:Unit) (_ _:List Int):Option Int:=some 0
theorem fun_lit_step {P:Program} {ops:Array Oper} {Q:Exit→Act→World→Prop} {o:Oper} {a:Act} {Kc:Act→World→Prop} {W:World} (hw:Region.wanted o (yielded ops a.tmps)=true) {N:Tmp} (_hd:o.dst=some N) {cs:Array Value} {t:TypeId} {n:Nat}
  (hrun:(execOp a.eval o).run P W=.ok (.value (.slice (some ⟨W.heap.size,0,none⟩) n n)) (W.alloc (.cells cs t (0,0))))
  (h:∀ g a6,a6.heap[g]?=some (.cells cs t (0,0))→Below W.heap.size W a6→Kc (a.put o.dst (.slice (some ⟨g,0,none⟩) n n)) a6):if Region.wanted o (yielded ops a.tmps)=true then Oper.wp P o a W Kc Q else Kc (a.put o.dst undef) W :=
 event_step hw hrun (h _ _ (blk_new W _) (below_alloc (Below.refl _ _) _))
theorem V_keptC {W W_:World} {e base n c:Nat} {ok S:Nat→Prop} {A:Option Addr} {xs:List Int} (h:Kd.V (Kd.int .i64) e W base ok (.slice A n c) xs) (hk:Kept W W_ S) (hne:∀ k,ok k→¬ S k):Kd.C (Kd.int .i64) W_ A n xs:=by
 obtain⟨hn,_,_⟩:=Kd.V_reads' h;have a6:=Kd.V_reads' (Kd.V_step h (fun k hk1 hk2=>hk.2 k hk2 (hne k hk1)))
 rw[hn];exact a6.2.2
theorem C_V {w:World} {e base n c:Nat} {A:Option Addr} {xs:List Int} (h:Kd.C (Kd.int .i64) w A n xs) (hc:n≤c):Kd.V (Kd.int .i64) e w base (fun _=>True) (.slice A n c) xs:=by
 have hn:=h.1;subst hn;refine⟨A,c,rfl,hc,fun W' hW=>⟨h.1,h.2.1,fun hp=>?_⟩⟩
 obtain⟨ad,a6,a7⟩:=h.2.2 hp;refine⟨ad,a6,fun j q hj=>?_⟩
 obtain⟨cs,a8,a9,b4⟩:=a7 j q hj;refine⟨cs,a8,a9,fun i u hu=>?_⟩
 have b5:=b4 i u hu;have b6:=hW _ trivial (World.block_lt_of_cell? w _ b5);rw[← b5];simp only[World.cell?,b6]
/-- What two steps one after the other come to. -/
def Czk.f (k:Nat) (l1 l1' l2 l2':List Int):Option (Int × List Int × List Int):=(Bzp.f k l1 l1').bind fun x=>if x.2=0 then(Bzp.f k l2 l2').bind fun y=>some (y.2,x.1,y.1) else some (x.2,x.1,([]:List Int))
theorem Czk.mono:∀ a6 a7 a8 a9 k,LeO (Czk.f k a6 a7 a8 a9) (Czk.f (k+1) a6 a7 a8 a9):=by
 intro a6 a7 a8 a9 k;unfold Czk.f;exact LeO.bind (Bzp.mono _ _ k) (fun _=>LeO.ite (LeO.bind (Bzp.mono _ _ k) (fun _=>LeO.refl _)) (LeO.refl _))
theorem kept_far {w a6:World} {S:Nat→Prop} {B g:Nat} (h:Below B w a6) (hB:w.heap.size≤B) (hg:S g) (v:Value):Kept w (a6.setCell ⟨g,0,none⟩ v) S :=
 Kept.setCell (p:=⟨g,0,none⟩) ⟨h.size,fun i hi _=>h.block i (Nat.lt_of_lt_of_le hi hB)⟩ (.inl hg) v
theorem kept_trans {a b c:World} {S:Nat→Prop} (h:Kept a b S) (h':Kept b c S):Kept a c S :=
 ⟨Nat.le_trans h.1 h'.1,fun i hi hn=>(h'.2 i (Nat.lt_of_lt_of_le hi h.1) hn).trans (h.2 i hi hn)⟩
/-- What two products leave. -/
structure Fin2 (w0 w W:World) (gp gq:Nat) (vp vq:Value) (x y:List Int):Prop where
 p:W.heap[gp]?=some (.cells #[vp] 31 (0,0))
 q:W.heap[gq]?=some (.cells #[vq] 31 (0,0))
 rp:rI W w0 (fun k_=>w.heap.size≤k_∧some k_≠vq.ownBlock) vp x
 rq:rI W w0 (fun k_=>w.heap.size≤k_∧some k_≠vp.ownBlock) vq y
 below:bw w0 W
 kept:Kept w W (fun k_=>k_=gp∨k_=gq)
theorem below_far {B:Nat} {a6 w a7:World} {g:Nat} (h:Below B a6 w) (hB:B≤w.heap.size) (a8:bw w a7) (hg:B≤g) (v:Value):Below B a6 (a7.setCell ⟨g,0,none⟩ v) :=
 Below.setCell (below_then h hB a8) hg v
set_option maxHeartbeats 2000000 in
theorem Czk.calls (k a6 a7 gp gq:Nat) (a8:Option Addr) (a9:Nat) (l1:List Int) (b4:Option Addr) (b5:Nat) (b6:List Int) (b7:Option Addr) (c2:Nat) (l2:List Int) (b8:Option Addr) (b9:Nat) (d6:List Int) (d7:Int) (d8 d9:List Int) (g cg:Nat) (e6 w:World) (hB:Below e6.heap.size e6 w)
  (hg:w.heap[g]?=some (.cells #[.func (.func (thkFn 96 a6).1) #[] (thkFn 96 a6).2,.func (.func (thkFn 96 a7).1) #[] (thkFn 96 a7).2] 80 (0,0)))
  (e7:Thk w a6 gp a8 l1.length a9 b4 b6.length b5) (e8:Thk w a7 gq b7 l2.length c2 b8 d6.length b9) (hp:w.heap[gp]?=some (.cells #[.slice none 0 0] 31 (0,0))) (hq:w.heap[gq]?=some (.cells #[.slice none 0 0] 31 (0,0))) (hne:gp≠gq) (hgp:e6.heap.size≤gp) (hgq:e6.heap.size≤gq) (e9:gp < a7) (f3:gq < a6)
  (f4:∀ W_,Kept w W_ (fun k_=>k_=gp∨k_=gq)→cI W_ a8 l1) (f5:l1.length≤a9) (f6:∀ W_,Kept w W_ (fun k_=>k_=gp∨k_=gq)→cI W_ b4 b6) (f7:b6.length≤b5)
  (f8:∀ W_,Kept w W_ (fun k_=>k_=gp∨k_=gq)→cI W_ b7 l2) (f9:l2.length≤c2) (g4:∀ W_,Kept w W_ (fun k_=>k_=gp∨k_=gq)→cI W_ b8 d6) (g5:d6.length≤b9)
  (h:Czk.f k l1 b6 l2 d6=some (d7,d8,d9)) :
  Calls Try.prog 67 #[.slice (some ⟨g,0,none⟩) 2 cg] w fun e w'=>e=.returned (.int .i64 d7)∧∃ vp vq:Value,Fin2 e6 w w' gp gq vp vq d8 d9:=by
 have hfn:∃ fn,Try.prog.funcs[96]?=some fn∧(fn.name == "runtime.NumGoroutine")=false∧fn.body.isSome=true:=⟨_,Try.func96,by kernel_rfl,rfl⟩
 have hgl:=blk_lt hg;have hgne:g≠gp∧g≠gq:=⟨blk_ne hg hp (by decide),blk_ne hg hq (by decide)⟩
 have hK1:∀ (g6:World) (v:Value),bw w g6→Kept w (g6.setCell ⟨gp,0,none⟩ v) (fun k_=>k_=gp∨k_=gq):=fun g6 v hb=>kept_far hb (Nat.le_refl _) (.inl rfl) v
 have hfar:∀ (W:World) (i:Nat) (o:Obj),Kept w W (fun k_=>k_=gp∨k_=gq)→i≠gp→i≠gq→w.heap[i]?=some o→W.heap[i]?=some o:=fun W i o hk g7 g8 ho=>blk_kept ho hk (fun e=>e.elim g7 g8)
 have hBs:=hB.size;let I:Nat→World→Prop:=fun j W=>Kept w W (fun k_=>k_=gp∨k_=gq)∧match j with
  | 0=>W=w
  | 1=>∃ (g6:World) (v:Value) (x:List Int),W=g6.setCell ⟨gp,0,none⟩ v∧Bzp.f k l1 b6=some (x,0)∧rI g6 w (fun _=>True) v x∧bw w g6
  | _=>∃ (vp vq:Value) (x y:List Int),Fin2 e6 w W gp gq vp vq x y∧Czk.f k l1 b6 l2 d6=some (0,x,y)
 let Qr:Int→World→Prop:=fun r W=>∃ (vp vq:Value) (x y:List Int),Fin2 e6 w W gp gq vp vq x y∧Czk.f k l1 b6 l2 d6=some (r,x,y)
 have hS:Steps_ [thkFn 96 a6,thkFn 96 a7] ⟨g,0,none⟩ I Qr:=by
  refine⟨fun j W hI i x hx=>?_,fun j W x hI hx=>?_,fun W hI=>hI.2⟩
  ·rw[add_plain];have g7:=hfar W g _ hI.1 hgne.1 hgne.2 hg;rw[blk_cell g7 i];match i,hx with
   | 0,hx=>cases hx;rfl
   | 1,hx=>cases hx;rfl
   | i+2,hx=>simp at hx
  ·match j,hx,hI with
   | 0,hx,hI =>
    cases hx
    obtain⟨hk,hw⟩:=hI;cases hw
    refine⟨hfn,?_⟩;unfold Czk.f at h;rw[Option.bind_eq_some_iff] at h;obtain⟨⟨x,g9⟩,hm,h⟩:=h;refine(Gzz.calls k a6 gp a8 a9 l1 b4 b5 b6 _ x g9 w e7 hp (f4 w hk) f5 (f6 w hk) f7 hm).mono ?_;rintro e W' ⟨g6,v,rfl,rfl,hR,hb⟩;refine⟨g9,rfl,fun j3=>⟨hK1 g6 v hb,g6,v,x,rfl,j3 ▸ hm,hR,hb⟩,fun j3=>?_⟩
    have hp1:g6.heap[gp]?=some (.cells #[.slice none 0 0] 31 (0,0)):=(hb.block gp (blk_lt hp)).trans hp;have hq1:g6.heap[gq]?=some (.cells #[.slice none 0 0] 31 (0,0)):=(hb.block gq (blk_lt hq)).trans hq;refine⟨v,.slice none 0 0,x,[],⟨blk_put hp1 0 v rfl,blk_far hq1 (Ne.symm hne) v,?_,Kd.R_nil _ _ _ _ _,below_far hB hBs hb hgp v,hK1 g6 v hb⟩,?_⟩
    ·refine Kd.R_mono (Kd.R_far (p:=⟨gp,0,none⟩) (ok:=fun k_=>w.heap.size≤k_) (Kd.R_lower (Kd.R_reok rfl hR (fun k_ hk_=>Kd.R_base hR k_ hk_)) hBs) (fun k_ hk_ e_=>?_) v) (fun k_ hk_=>⟨hk_,by simp [Value.ownBlock]⟩)
     have:=blk_lt hp;subst e_;omega
    ·unfold Czk.f;rw[hm];simp only[Option.bind_some];rw[if_neg j3]
   | 1,hx,hI =>
    cases hx
    obtain⟨hk,g6,v,x,rfl,hm,hR,hb⟩:=hI;refine⟨hfn,?_⟩;unfold Czk.f at h;rw[Option.bind_eq_some_iff] at h;obtain⟨⟨x',g9⟩,hm',h⟩:=h;rw[hm] at hm';cases hm'
    simp only[if_true] at h;rw[Option.bind_eq_some_iff] at h;obtain⟨⟨y,j4⟩,j5,h⟩:=h;have hp1:g6.heap[gp]?=some (.cells #[.slice none 0 0] 31 (0,0)):=(hb.block gp (blk_lt hp)).trans hp;have hq1:(g6.setCell ⟨gp,0,none⟩ v).heap[gq]?=some (.cells #[.slice none 0 0] 31 (0,0)):=blk_far ((hb.block gq (blk_lt hq)).trans hq) (Ne.symm hne) v;have j6:Thk (g6.setCell ⟨gp,0,none⟩ v) a7 gq b7 l2.length c2 b8 d6.length b9:=⟨hfar _ _ _ hk (by omega) (by have:=e8.lt;omega) e8.tp,hfar _ _ _ hk (by omega) (by have:=e8.lt;omega) e8.fa,hfar _ _ _ hk (by omega) (by have:=e8.lt;omega) e8.fb,e8.lt⟩
    refine(Gzz.calls k a7 gq b7 c2 l2 b8 b9 d6 _ y j4 _ j6 hq1 (f8 _ hk) f9 (g4 _ hk) g5 j5).mono ?_;rintro e W' ⟨j7,u,rfl,rfl,j8,j9⟩;have hps:gp < w.heap.size:=blk_lt hp;have hqs:gq < w.heap.size:=blk_lt hq;have l5:w.heap.size≤(g6.setCell ⟨gp,0,none⟩ v).heap.size:=hk.1;have hRv:Kd.R (Kd.int .i64) 3 (g6.setCell ⟨gp,0,none⟩ v) w.heap.size (fun k_=>w.heap.size≤k_) v x:=Kd.R_far (p:=⟨gp,0,none⟩) (Kd.R_reok rfl hR (fun k_ hk_=>Kd.R_base hR k_ hk_)) (fun k_ hk_ e_=>by subst e_;omega) v
    have hkk:Kept w (j7.setCell ⟨gq,0,none⟩ u) (fun k_=>k_=gp∨k_=gq):=kept_trans hk (kept_far j9 (Nat.le_refl _) (.inr rfl) u)
    have hFin:Fin2 e6 w (j7.setCell ⟨gq,0,none⟩ u) gp gq v u x y:=by
     refine⟨blk_far ((j9.block gp (by omega)).trans (blk_put hp1 0 v rfl)) hne u,blk_put ((j9.block gq (by omega)).trans hq1) 0 u rfl,?_,?_,below_far (below_far hB hBs hb hgp v) (by omega) j9 hgq u,hkk⟩
     ·refine Kd.R_far (p:=⟨gq,0,none⟩) ?_ (fun k_ hk_ e_=>by subst e_;omega) u
      exact Kd.R_lower (Kd.R_elder' (rX hRv) (fun k_ hk_=>Kd.R_base j8 k_ hk_) j9) hBs
     ·refine Kd.R_far (p:=⟨gq,0,none⟩) ?_ (fun k_ hk_ e_=>by subst e_;omega) u
      refine Kd.R_lower (Kd.R_reok rfl j8 (fun k_ hk_=>⟨Nat.le_trans l5 (Kd.R_base j8 k_ hk_),fun e_=>?_⟩)) (by omega)
      have:=Kd.R_lt hRv k_ e_.symm;have:=Kd.R_base j8 k_ hk_;omega
    have l6:Czk.f k l1 b6 l2 d6=some (j4,x,y):=by
     unfold Czk.f;rw[hm];simp only[Option.bind_some,if_true];rw[j5];rfl
    exact⟨j4,rfl,fun j3=>⟨hkk,v,u,x,y,hFin,by rw[l6,j3]⟩,fun _=>⟨v,u,x,y,hFin,l6⟩⟩
   | j+2,hx,hI=>simp at hx
 have hI0:I 0 w:=⟨⟨Nat.le_refl _,fun _ _ _=>rfl⟩,rfl⟩
 refine(Gzm.calls [thkFn 96 a6,thkFn 96 a7] ⟨g,0,none⟩ cg w I Qr hS hI0 (by simp)).mono ?_
 rintro e w' ⟨r,rfl,vp,vq,x,y,hF,hf⟩;rw[h] at hf;cases hf
 exact⟨rfl,vp,vq,hF⟩



def Fzk.f (k:Nat) (l0:List Int) (l1:List Int):Option (Int × Int):=(Azw.f k l0).bind fun t342=>(if t342=true then((Azw.f k l1).bind fun t343=>(if t343=true then((Czv.f k l0 l1).bind fun t344=>(some (t344,0))) else(some (0,3)))) else(some (0,3)))
theorem Fzk.mono:∀ a6 a7 k,LeO (Fzk.f k a6 a7) (Fzk.f (k+1) a6 a7):=by
 intro a6 a7 k;unfold Fzk.f;have i0:=@Azw.mono;have i1:=@Czv.mono;exact mM
theorem Fzk.calls (k:Nat) (a6:Option Addr) (a7:Nat) (l0:List Int) (a8:Option Addr) (a9:Nat) (l1:List Int) (b4:Int) (b5:Int) (w:World) (b6:cI w a6 l0) (b7:l0.length≤a7) (b8:cI w a8 l1) (b9:l1.length≤a9) (h:Fzk.f k l0 l1=some (b4,b5)) :
  Calls Try.prog 69 #[.slice a6 l0.length a7,.slice a8 l1.length a9] w fun e w'=>e=.returned (.tuple #[.int .i64 b4,.int .i64 b5])∧Drawn0 w w':=by
 have d6:=aM b6;have d7:=aM b7;clear b6 b7;have d8:=aM b8;have d9:=aM b9;clear b8 b9;have H:((Azw.f k l0).bind fun e6=>(if e6=true then((Azw.f k l1).bind fun e7=>(if e7=true then((Czv.f k l0 l1).bind fun e8=>(some (e8,0))) else(some (0,3)))) else(some (0,3))))=some (b4,b5):=h
 clear h;obtain⟨e6,e9,H⟩:=bT H;(try dsimp only at H);by_cases c4:e6=true
 ·subst c4;rw[if_pos rfl] at H;obtain⟨e7,f3,H⟩:=bT H;(try dsimp only at H);have f4:=aM H;clear H;go_enter Try.func69,Try.ntmps69
  go_upto_if 13 with (first|((with_reducible refine gc 65 rfl ?_);refine gC 65 (some 7) Try.func65 #[.slice a6 l0.length a7] ?_;(with_reducible refine(Azw.calls k _ _ l0 true _ ?_ ?_ e9.out).mono ?_);exact cX d6.out;exact d7.out;rintro e w' ⟨rfl,⟨nd,rfl⟩⟩;refine⟨_,rfl,?_⟩)|(go_at_call 65;(with_reducible refine(Azw.calls k _ _ l1 e7 _ ?_ ?_ f3.out).mono ?_);exact cX d8.out;exact d9.out;rintro e w' ⟨rfl,⟨nd,rfl⟩⟩))
  have H:=f4.out;clear f4;by_cases c7:e7=true
  ·subst c7;rw[if_pos rfl] at H;replace H:=bS H;obtain⟨e8,f5,H⟩:=H;replace H:(some (e8,0))=some (b4,b5):=H;have f6:=aM f5;clear f5;obtain⟨rfl,rfl⟩:=q2 H;go_wp2_with (first|((with_reducible refine gc 98 rfl ?_);refine gC 98 (some 16) Try.func98 #[.slice a6 l0.length a7,.slice a8 l1.length a9] ?_;(with_reducible refine(Czv.calls k _ _ l0 _ _ l1 e8 _ ?_ ?_ ?_ ?_ f6.out).mono ?_);exact cX d6.out;exact d7.out;exact cX d8.out;exact d9.out;rintro e w' ⟨rfl,⟨nd,rfl⟩⟩;refine⟨_,rfl,?_⟩))
   go_ret2
   exact⟨sD,dR⟩
  ·obtain rfl:=bN c7;rw[if_neg nF] at H
   obtain⟨rfl,rfl⟩:=q2 H;go_wp2
   go_ret2
   exact⟨sD,dR⟩
 ·obtain rfl:=bN c4;rw[if_neg nF] at H
  obtain⟨rfl,rfl⟩:=q2 H;go_enter Try.func69,Try.ntmps69
  go_wp2_with (first|((with_reducible refine gc 65 rfl ?_);refine gC 65 (some 7) Try.func65 #[.slice a6 l0.length a7] ?_;(with_reducible refine(Azw.calls k _ _ l0 false _ ?_ ?_ e9.out).mono ?_);exact cX d6.out;exact d7.out;rintro e w' ⟨rfl,⟨nd,rfl⟩⟩;refine⟨_,rfl,?_⟩))
  go_ret2
  exact⟨sD,dR⟩


mutual
def Dzy.j0:Nat→List Int→List Int→Bool→Option (List Int × Int)
 | 0,_,_,_=>none
 | k+1,x0,x1,x17=>if x17=true then(some (([]:List Int),3)) else((Fzw.f x0 (wrap64 ((mx (x0.length:Int) (x1.length:Int))+1))).bind fun t347=>(Dzy.l0 k x1 t347 0 (t347.length:Int) 0))
def Dzy.l0:Nat→List Int→List Int→Int→Int→Int→Option (List Int × Int)
 | 0,_,_,_,_,_=>none
 | k+1,x1,x6,x7,x27,x28=>if x28 < x27 then(if 0≤x28 then(if x28 < (x6.length:Int) then(if x28 < (x1.length:Int) then(Dzy.l0 k x1 (x6.set (x28:Int).toNat (Int.tmod (wrap64 ((wrap64 ((rd x6 x28)+x7))+(rd x1 x28))) 1000000000)) (wrap64 (Int.tdiv (wrap64 ((wrap64 ((rd x6 x28)+x7))+(rd x1 x28))) 1000000000)) x27 (wrap64 (x28+1))) else(Dzy.l0 k x1 (x6.set (x28:Int).toNat (Int.tmod (wrap64 ((rd x6 x28)+x7)) 1000000000)) (wrap64 (Int.tdiv (wrap64 ((rd x6 x28)+x7)) 1000000000)) x27 (wrap64 (x28+1)))) else(none)) else(none)) else((Ezv.f k x6).bind fun bt354=>(some (bt354.1,bt354.2)))
end
def Dzy.f (k:Nat) (l0:List Int) (l1:List Int):Option (List Int × Int):=(Azw.f k l0).bind fun t345=>(if t345=true then((Azw.f k l1).bind fun t346=>(Dzy.j0 k l0 l1 (!t346))) else(Dzy.j0 k l0 l1 true))
theorem Dzy.mono_l:∀ k,(∀ a6 a7 a8,LeO (Dzy.j0 k a6 a7 a8) (Dzy.j0 (k+1) a6 a7 a8))∧(∀ a6 a7 a8 a9 b4,LeO (Dzy.l0 k a6 a7 a8 a9 b4) (Dzy.l0 (k+1) a6 a7 a8 a9 b4))
 | 0=>⟨fun _ _ _ r h=>by simp [Dzy.j0] at h,fun _ _ _ _ _ r h=>by simp [Dzy.l0] at h⟩
 | k+1=>by
  obtain⟨ih0,ih1⟩:=Dzy.mono_l k;have i0:=@Azw.mono;have i1:=@Ezv.mono;refine⟨?_,?_⟩
  ·intro a6 a7 a8;unfold Dzy.j0;exact mM
  ·intro a6 a7 a8 a9 b4;unfold Dzy.l0;exact mM
theorem Dzy.mono:∀ a6 a7 k,LeO (Dzy.f k a6 a7) (Dzy.f (k+1) a6 a7):=by
 intro a6 a7 k;obtain⟨ih0,ih1⟩:=Dzy.mono_l k;unfold Dzy.f;have i0:=@Azw.mono;have i1:=@Ezv.mono;exact mM
theorem Dzy.calls (k:Nat) (a6:Option Addr) (a7:Nat) (l0:List Int) (a8:Option Addr) (a9:Nat) (l1:List Int) (b4:List Int) (b5:Int) (w:World) (b6:cI w a6 l0) (b7:l0.length≤a7) (b8:cI w a8 l1) (b9:l1.length≤a9) (h:Dzy.f k l0 l1=some (b4,b5)) :
  Calls Try.prog 89 #[.slice a6 l0.length a7,.slice a8 l1.length a9] w fun e w'=>∃ v0_:Value,e=.returned (.tuple #[v0_,.int .i64 b5])∧rI w' w (fun _=>True) v0_ b4∧bw w w':=by
 have d6:=aM b6;have d7:=aM b7;clear b6 b7;have d8:=aM b8;have d9:=aM b9;clear b8 b9;have HB:=aM (Below.refl w.heap.size w);have H:((Azw.f k l0).bind fun e6=>(if e6=true then((Azw.f k l1).bind fun e7=>(Dzy.j0 k l0 l1 (!e7))) else(Dzy.j0 k l0 l1 true)))=some (b4,b5):=h
 clear h;have e8:=aM H;clear H;go_enter Try.func89,Try.ntmps89
 go_upto_region 1 with (fail)
 go_cut [17] (fun e9 wc=>∃ (kq:Nat) (f3:Bool),e9=.bool f3∧Aside0 (Dzy.j0 kq l0 l1 f3=some (b4,b5))∧Aside0 (kq≤k)∧Aside0 (bw w wc))
 case first =>
  have H:=e8.out;clear e8;obtain⟨e6,f4,H⟩:=bT H;(try dsimp only at H);by_cases c5:e6=true
  ·subst c5;rw[if_pos rfl] at H;obtain⟨e7,f5,H⟩:=bT H;(try dsimp only at H);have H':=aM H;clear H;go_wp2_with (first|((with_reducible refine gc 65 rfl ?_);refine gC 65 (some 11) Try.func65 #[.slice a6 l0.length a7] ?_;(with_reducible refine(Azw.calls k _ _ l0 true _ ?_ ?_ f4.out).mono ?_);exact cB d6;exact d7.out;rintro e w' ⟨rfl,⟨nd,rfl⟩⟩;refine⟨_,rfl,?_⟩)|(go_at_call 65;(with_reducible refine(Azw.calls k _ _ l1 e7 _ ?_ ?_ f5.out).mono ?_);exact cB d8;exact d9.out;rintro e w' ⟨rfl,⟨nd,rfl⟩⟩))
   go_meet
   case rel=>exact⟨_,(!e7),sD,H',⟨by first|omega|exact Nat.le_refl _⟩,⟨pB⟩⟩
  ·obtain rfl:=bN c5;rw[if_neg nF] at H
   have H':=aM H;clear H;go_wp2_with (first|((with_reducible refine gc 65 rfl ?_);refine gC 65 (some 11) Try.func65 #[.slice a6 l0.length a7] ?_;(with_reducible refine(Azw.calls k _ _ l0 false _ ?_ ?_ f4.out).mono ?_);exact cB d6;exact d7.out;rintro e w' ⟨rfl,⟨nd,rfl⟩⟩;refine⟨_,rfl,?_⟩))
   go_meet
   case rel=>exact⟨_,(true),sD,H',⟨by first|omega|exact Nat.le_refl _⟩,⟨pB⟩⟩
 case rest =>
  clear e8;try clear a9
  obtain⟨kq,f3,rfl,HA,f6,HB⟩:=hcut;cases kq with
  | zero=>exact absurd HA.out (by simp [Dzy.j0])
  | succ f7 =>
   have H:=HA.out;clear HA;simp only[Dzy.j0] at H;by_cases c7:f3=true
   ·subst c7;rw[if_pos rfl] at H;obtain⟨rfl,rfl⟩:=q2 H;go_wp2
    go_ret2
    exact⟨_,eW,nK,pB⟩
   ·obtain rfl:=bN c7;rw[if_neg nF] at H
    obtain⟨f8,f9⟩:∃ j_:Int,(mx (l0.length:Int) (l1.length:Int))=j_:=⟨_,rfl⟩;replace H:((Fzw.f l0 (wrap64 ((f8)+1))).bind fun g4=>(Dzy.l0 f7 l1 g4 0 (g4.length:Int) 0))=some (b4,b5):=by first|(rw[f9] at H;exact H)|(simp only[f9] at H ⊢;exact H)
    have g5:(if(l0.length:Int) < (l1.length:Int) then(l1.length:Int) else(l0.length:Int))=f8:=f9
    have g6:(if l0.length < l1.length then(l1.length:Int) else(l0.length:Int))=f8:=by rw[← g5];simp only[Int.ofNat_lt]
    obtain⟨g4,g7,H⟩:=bT H;(try dsimp only at H);have H':=aM H;clear H;go_wp2_with (first|((with_reducible refine gate_callee (f:=93) rfl ?_);refine goesL_ (some 25) rfl rfl Try.func93 (by kernel_rfl) rfl #[.slice a6 l0.length a7,.int .i64 (wrap64 ((f8)+1))] rfl (by(try simp only[List.map_toArray,List.map_cons,List.map_nil]);first|done|(simp only[f9];rfl)|rfl|(simp only[List.length_drop,List.length_take];rfl)) ?_;(with_reducible refine(Fzw.calls _ _ l0 (wrap64 ((f8)+1)) g4 _ ?_ ?_ g7.out).mono ?_);exact cB d6;exact d7.out;rintro e g8 ⟨g9,rfl,j3,hb⟩;refine⟨_,rfl,?_⟩;have j4:=rL j3;replace HB:=bB hb;clear hb j3;obtain⟨j5,j6,rfl⟩:=Kd.R_slice j4.out))
    go_loopg [7,28] f7 (fun kq j7 j8 w'=>∃ (j9:List Int) (l5:Int) (l6:Int),j7=.int .i64 l5∧j8=.int .i64 l6∧Aside0 (Dzy.l0 kq l1 j9 l5 (g4.length:Int) l6=some (b4,b5))∧Aside0 (kq≤f7)∧Aside0 (rI w' w (fun _=>True) (.slice j5 g4.length j6) j9)∧Aside0 (bw w w'))
    case atStart=>exact⟨(g4),(0),(0),sD,sD,H',⟨Nat.le_refl _⟩,⟨rX j4.out⟩,⟨pB⟩⟩
    case round =>
     clear H';try clear a9
     obtain⟨j9,l5,l6,rfl,rfl,HA,l7,l8,HB⟩:=hrel;have l9:=(Kd.R_reads' l8.out).1;rw[l9] at l8;(try simp only[l9])
     cases gk with
     | zero=>exact absurd HA.out (by simp [Dzy.l0])
     | succ k2 =>
      have H:=HA.out;clear HA;simp only[Dzy.l0] at H;by_cases m0:l6 < (g4.length:Int)
      ·rw[if_pos m0] at H;have m4:=dE m0;have m5:=m4;(try simp only[l9] at m5)
       clear m0;obtain⟨m6,H⟩:=iN H;obtain⟨m7,H⟩:=iO H;have m8:decide (l6 < (j9.length:Int))=true:=dE m7;have m9:=m8;(try simp only[l9] at m9)
       clear m7;by_cases n0:l6 < (l1.length:Int)
       ·rw[if_pos n0] at H;have n7:=dE n0;have n8:=n7;(try simp only[l9] at n8)
        clear n0;obtain⟨n9,o0⟩:∃ y_:List Int,y_=(j9.set (l6:Int).toNat (Int.tmod (wrap64 ((wrap64 ((rd j9 l6)+l5))+(rd l1 l6))) 1000000000)):=⟨_,rfl⟩;replace H:(Dzy.l0 k2 l1 n9 (wrap64 (Int.tdiv (wrap64 ((wrap64 ((rd j9 l6)+l5))+(rd l1 l6))) 1000000000)) (g4.length:Int) (wrap64 (l6+1)))=some (b4,b5):=yE o0 H
        have o8:=aM o0;clear o0;have H':=aM H;clear H;obtain⟨o9,p0,p4,p7,p9⟩:=aI (Kd.R_reads' l8.out).2.2 l6;cases p0;obtain⟨r5,r6,r7,r8,r9⟩:=aI d8.out l6;cases r6
        replace r7:=hB HB r7;have t4:0≤(l6:Int):=oE aS
        have t5:(l6:Int) < ((j9.length:Int):Int):=oE aS
        obtain⟨t6,t7,t8,t9,y9,z3,z4⟩:=Kd.R_form l8.out (by omega)
        (first|cases t8|(injection t8 with ea_ en_ ec_;(first|subst ea_|(injection ea_ with ea_;subst ea_));subst ec_;clear en_))
        have z5:=aM t9;have z6:=aM z4;clear t9 y9 z4;(first|simp only[add_plain] at p4|skip)
        obtain⟨z7,z8⟩:=Kd.R_celln 0 l8.out (l6:Int) t4 t5;replace t4:=eq_true t4;replace t5:=eq_true t5;have z9:=Kd.R_putg l8.out (l6:Int) (Int.tmod (wrap64 ((wrap64 ((rd j9 l6)+l5))+(rd l1 l6))) 1000000000);go_wp2_with (first|((with_reducible refine gate_store (t:=3) (p:=53) rfl ?_);refine store_event (t:=3) (p:=53) (v:=?vo_w18) (w1:=(wr.setCell ⟨t6,(l6:Int).toNat,none⟩ (.int .i64 (Int.tmod (wrap64 ((wrap64 ((rd j9 l6)+l5))+(rd l1 l6))) 1000000000)))) ?hg ?ho ?hn ?hr ?_;(case ho=>rfl);(case hg=>rfl);(case hn=>rfl);(case hr=>first|(go_simp;done)|(go_simp;rfl));intro B0 hw;have hg:wr.grownBy B0 (some t6):=(by rw[hw];exact z9.2);have hp_:rI B0 w (fun _=>True) (.slice (some ⟨t6,0,none⟩) j9.length j6) n9:=(by rw[hw,o8.out];exact z9.1);clear z9;replace l8:=aM (hp_);replace HB:=aM ((by rw[hw];exact below_set (HB.out) z5.out:bw w B0));clear hg hw hp_))
        (try simp only[← l9])
        go_roundg k2
        case measure=>have:=f6.out;have:=l7.out;omega
        case rel=>exact⟨(n9),(wrap64 (Int.tdiv (wrap64 ((wrap64 ((rd j9 l6)+l5))+(rd l1 l6))) 1000000000)),(wrap64 (l6+1)),sD,sD,H',⟨by have:=f6.out;have:=l7.out;omega⟩,⟨by(try simp only[l9]);(with_reducible repeat(first|apply Kd.R_alloc|apply Kd.R_drewN|apply Kd.R_drew));exact l8.out⟩,⟨pB⟩⟩
       ·rw[if_neg n0] at H;have n7:decide (l6 < (l1.length:Int))=false:=decide_eq_false n0;have n8:=n7;(try simp only[l9] at n8)
        clear n0;obtain⟨B5,B9⟩:∃ y_:List Int,y_=(j9.set (l6:Int).toNat (Int.tmod (wrap64 ((rd j9 l6)+l5)) 1000000000)):=⟨_,rfl⟩;replace H:(Dzy.l0 k2 l1 B5 (wrap64 (Int.tdiv (wrap64 ((rd j9 l6)+l5)) 1000000000)) (g4.length:Int) (wrap64 (l6+1)))=some (b4,b5):=yE B9 H
        have C0:=aM B9;clear B9;have H':=aM H;clear H;obtain⟨o9,p0,p4,p7,p9⟩:=aI (Kd.R_reads' l8.out).2.2 l6;cases p0;have C1:0≤(l6:Int):=oE aS
        have C2:(l6:Int) < ((j9.length:Int):Int):=oE aS
        obtain⟨C3,C4,C6,C7,C8,C9,D2⟩:=Kd.R_form l8.out (by omega)
        (first|cases C6|(injection C6 with ea_ en_ ec_;(first|subst ea_|(injection ea_ with ea_;subst ea_));subst ec_;clear en_))
        have D3:=aM C7;have D4:=aM D2;clear C7 C8 D2;(first|simp only[add_plain] at p4|skip)
        obtain⟨D5,D6⟩:=Kd.R_celln 0 l8.out (l6:Int) C1 C2;replace C1:=eq_true C1;replace C2:=eq_true C2;have D7:=Kd.R_putg l8.out (l6:Int) (Int.tmod (wrap64 ((rd j9 l6)+l5)) 1000000000);go_wp2_with (first|((with_reducible refine gate_store (t:=3) (p:=53) rfl ?_);refine store_event (t:=3) (p:=53) (v:=?vo_w21) (w1:=(wr.setCell ⟨C3,(l6:Int).toNat,none⟩ (.int .i64 (Int.tmod (wrap64 ((rd j9 l6)+l5)) 1000000000)))) ?hg ?ho ?hn ?hr ?_;(case ho=>rfl);(case hg=>rfl);(case hn=>rfl);(case hr=>first|(go_simp;done)|(go_simp;rfl));intro D8 hw;have hg:wr.grownBy D8 (some C3):=(by rw[hw];exact D7.2);have hp_:rI D8 w (fun _=>True) (.slice (some ⟨C3,0,none⟩) j9.length j6) B5:=(by rw[hw,C0.out];exact D7.1);clear D7;replace l8:=aM (hp_);replace HB:=aM ((by rw[hw];exact below_set (HB.out) D3.out:bw w D8));clear hg hw hp_))
        (try simp only[← l9])
        go_roundg k2
        case measure=>have:=f6.out;have:=l7.out;omega
        case rel=>exact⟨(B5),(wrap64 (Int.tdiv (wrap64 ((rd j9 l6)+l5)) 1000000000)),(wrap64 (l6+1)),sD,sD,H',⟨by have:=f6.out;have:=l7.out;omega⟩,⟨by(try simp only[l9]);(with_reducible repeat(first|apply Kd.R_alloc|apply Kd.R_drewN|apply Kd.R_drew));exact l8.out⟩,⟨pB⟩⟩
      ·rw[if_neg m0] at H;have m4:decide (l6 < (g4.length:Int))=false:=decide_eq_false m0;have m5:=m4;(try simp only[l9] at m5)
       clear m0;replace H:=bS H;obtain⟨⟨D9,E0⟩,E1,H⟩:=H;replace H:(some (D9,E0))=some (b4,b5):=H;have E2:=aM E1;clear E1;obtain⟨rfl,rfl⟩:=q2 H;go_wp2_with (first|((with_reducible refine gc 110 rfl ?_);refine gC 110 (some 56) Try.func110 #[.slice j5 j9.length j6] ?_;(with_reducible refine(Ezv.calls k2 (fun k_=>some k_=(.slice j5 j9.length j6:Value).ownBlock) (.slice j5 j9.length j6) j9 D9 E0 w _ ?_ ?_ E2.out).mono ?_);exact pB;exact Kd.R_tight rfl l8.out;rintro e E3 ⟨E4,rfl,j3,hb,hkp⟩;refine⟨_,rfl,?_⟩;have E5:=aM (Kd.R_mono (ok':=fun k_=>True) j3 (fun k_ hk_=>trivial));replace HB:=aM (hb);clear l8 hb hkp j3))
       go_ret2
       exact⟨_,by first|rfl|(simp [errW_none,errW_some] <;> rfl)|(simp only[← f9];first|rfl|(simp [errW_none,errW_some] <;> rfl))|(simp [*,errW_none,errW_some] <;> rfl),rX E5.out,pB⟩


mutual
def Dzq.j0:Nat→List Int→List Int→Bool→Option (List Int × Int)
 | 0,_,_,_=>none
 | k+1,x0,x1,x17=>if x17=true then(some (([]:List Int),3)) else((Czv.f k x0 x1).bind fun t360=>(if t360 < 0 then(some (([]:List Int),1)) else((Fzw.f x0 (x0.length:Int)).bind fun t361=>(Dzq.l0 k x1 t361 0 (t361.length:Int) 0))))
def Dzq.l0:Nat→List Int→List Int→Int→Int→Int→Option (List Int × Int)
 | 0,_,_,_,_,_=>none
 | k+1,x1,x6,x7,x27,x28=>if x28 < x27 then(if 0≤x28 then(if x28 < (x6.length:Int) then(if x28 < (x1.length:Int) then(if(wrap64 ((wrap64 ((rd x6 x28) - x7)) - (rd x1 x28))) < 0 then(Dzq.l0 k x1 (x6.set (x28:Int).toNat (wrap64 ((wrap64 ((wrap64 ((rd x6 x28) - x7)) - (rd x1 x28)))+1000000000))) 1 x27 (wrap64 (x28+1))) else(Dzq.l0 k x1 (x6.set (x28:Int).toNat (wrap64 ((wrap64 ((rd x6 x28) - x7)) - (rd x1 x28)))) 0 x27 (wrap64 (x28+1)))) else(if(wrap64 ((rd x6 x28) - x7)) < 0 then(Dzq.l0 k x1 (x6.set (x28:Int).toNat (wrap64 ((wrap64 ((rd x6 x28) - x7))+1000000000))) 1 x27 (wrap64 (x28+1))) else(Dzq.l0 k x1 (x6.set (x28:Int).toNat (wrap64 ((rd x6 x28) - x7))) 0 x27 (wrap64 (x28+1))))) else(none)) else(none)) else((Azb.f k x6).bind fun t364=>(some (t364,0)))
end
def Dzq.f (k:Nat) (l0:List Int) (l1:List Int):Option (List Int × Int):=(Azw.f k l0).bind fun t358=>(if t358=true then((Azw.f k l1).bind fun t359=>(Dzq.j0 k l0 l1 (!t359))) else(Dzq.j0 k l0 l1 true))
theorem Dzq.mono_l:∀ k,(∀ a6 a7 a8,LeO (Dzq.j0 k a6 a7 a8) (Dzq.j0 (k+1) a6 a7 a8))∧(∀ a6 a7 a8 a9 b4,LeO (Dzq.l0 k a6 a7 a8 a9 b4) (Dzq.l0 (k+1) a6 a7 a8 a9 b4))
 | 0=>⟨fun _ _ _ r h=>by simp [Dzq.j0] at h,fun _ _ _ _ _ r h=>by simp [Dzq.l0] at h⟩
 | k+1=>by
  obtain⟨ih0,ih1⟩:=Dzq.mono_l k;have i0:=@Azw.mono;have i1:=@Czv.mono;have i2:=@Azb.mono;refine⟨?_,?_⟩
  ·intro a6 a7 a8;unfold Dzq.j0;exact mM
  ·intro a6 a7 a8 a9 b4;unfold Dzq.l0;exact mM
theorem Dzq.mono:∀ a6 a7 k,LeO (Dzq.f k a6 a7) (Dzq.f (k+1) a6 a7):=by
 intro a6 a7 k;obtain⟨ih0,ih1⟩:=Dzq.mono_l k;unfold Dzq.f;have i0:=@Azw.mono;have i1:=@Czv.mono;have i2:=@Azb.mono;exact mM
theorem Dzq.calls (k:Nat) (a6:Option Addr) (a7:Nat) (l0:List Int) (a8:Option Addr) (a9:Nat) (l1:List Int) (b4:List Int) (b5:Int) (w:World) (b6:cI w a6 l0) (b7:l0.length≤a7) (b8:cI w a8 l1) (b9:l1.length≤a9) (h:Dzq.f k l0 l1=some (b4,b5)) :
  Calls Try.prog 90 #[.slice a6 l0.length a7,.slice a8 l1.length a9] w fun e w'=>∃ v0_:Value,e=.returned (.tuple #[v0_,.int .i64 b5])∧rI w' w (fun _=>True) v0_ b4∧bw w w':=by
 have d6:=aM b6;have d7:=aM b7;clear b6 b7;have d8:=aM b8;have d9:=aM b9;clear b8 b9;have HB:=aM (Below.refl w.heap.size w);have H:((Azw.f k l0).bind fun e6=>(if e6=true then((Azw.f k l1).bind fun e7=>(Dzq.j0 k l0 l1 (!e7))) else(Dzq.j0 k l0 l1 true)))=some (b4,b5):=h
 clear h;have e8:=aM H;clear H;go_enter Try.func90,Try.ntmps90
 go_upto_region 1 with (fail)
 go_cut [17] (fun e9 wc=>∃ (kq:Nat) (f3:Bool),e9=.bool f3∧Aside0 (Dzq.j0 kq l0 l1 f3=some (b4,b5))∧Aside0 (kq≤k)∧Aside0 (bw w wc))
 case first =>
  have H:=e8.out;clear e8;obtain⟨e6,f4,H⟩:=bT H;(try dsimp only at H);by_cases c5:e6=true
  ·subst c5;rw[if_pos rfl] at H;obtain⟨e7,f5,H⟩:=bT H;(try dsimp only at H);have H':=aM H;clear H;go_wp2_with (first|((with_reducible refine gc 65 rfl ?_);refine gC 65 (some 11) Try.func65 #[.slice a6 l0.length a7] ?_;(with_reducible refine(Azw.calls k _ _ l0 true _ ?_ ?_ f4.out).mono ?_);exact cB d6;exact d7.out;rintro e w' ⟨rfl,⟨nd,rfl⟩⟩;refine⟨_,rfl,?_⟩)|(go_at_call 65;(with_reducible refine(Azw.calls k _ _ l1 e7 _ ?_ ?_ f5.out).mono ?_);exact cB d8;exact d9.out;rintro e w' ⟨rfl,⟨nd,rfl⟩⟩))
   go_meet
   case rel=>exact⟨_,(!e7),sD,H',⟨by first|omega|exact Nat.le_refl _⟩,⟨pB⟩⟩
  ·obtain rfl:=bN c5;rw[if_neg nF] at H
   have H':=aM H;clear H;go_wp2_with (first|((with_reducible refine gc 65 rfl ?_);refine gC 65 (some 11) Try.func65 #[.slice a6 l0.length a7] ?_;(with_reducible refine(Azw.calls k _ _ l0 false _ ?_ ?_ f4.out).mono ?_);exact cB d6;exact d7.out;rintro e w' ⟨rfl,⟨nd,rfl⟩⟩;refine⟨_,rfl,?_⟩))
   go_meet
   case rel=>exact⟨_,(true),sD,H',⟨by first|omega|exact Nat.le_refl _⟩,⟨pB⟩⟩
 case rest =>
  clear e8;try clear a9
  obtain⟨kq,f3,rfl,HA,f6,HB⟩:=hcut;cases kq with
  | zero=>exact absurd HA.out (by simp [Dzq.j0])
  | succ f7 =>
   have H:=HA.out;clear HA;simp only[Dzq.j0] at H;by_cases c7:f3=true
   ·subst c7;rw[if_pos rfl] at H;obtain⟨rfl,rfl⟩:=q2 H;go_wp2
    go_ret2
    exact⟨_,eW,nK,pB⟩
   ·obtain rfl:=bN c7;rw[if_neg nF] at H
    obtain⟨f8,f9,H⟩:=bT H;(try dsimp only at H);have g4:=aM H;clear H;go_upto_if 21 with (first|((with_reducible refine gc 98 rfl ?_);refine gC 98 (some 20) Try.func98 #[.slice a6 l0.length a7,.slice a8 l1.length a9] ?_;(with_reducible refine(Czv.calls f7 _ _ l0 _ _ l1 f8 _ ?_ ?_ ?_ ?_ f9.out).mono ?_);exact cB d6;exact d7.out;exact cB d8;exact d9.out;rintro e w' ⟨rfl,⟨nd,rfl⟩⟩;refine⟨_,rfl,?_⟩))
    have H:=g4.out;clear g4;replace H:=iD H;rcases H with⟨g5,H⟩|⟨g5,H⟩
    ·(first|rw[g5]|(simp only[i64_w,i32_w];rw[g5])|skip)
     obtain⟨rfl,rfl⟩:=q2 H;go_wp2
     go_ret2
     exact⟨_,eW,nK,pB⟩
    ·(first|rw[g5]|(simp only[i64_w,i32_w];rw[g5])|skip)
     obtain⟨g6,g7,H⟩:=bT H;(try dsimp only at H);have H':=aM H;clear H;go_wp2_with (first|((with_reducible refine gc 93 rfl ?_);refine gC 93 (some 25) Try.func93 #[.slice a6 l0.length a7,.int .i64 (l0.length:Int)] ?_;(with_reducible refine(Fzw.calls _ _ l0 (l0.length:Int) g6 _ ?_ ?_ g7.out).mono ?_);exact cB d6;exact d7.out;rintro e g8 ⟨g9,rfl,j3,hb⟩;refine⟨_,rfl,?_⟩;have j4:=rL j3;replace HB:=bB hb;clear hb j3;obtain⟨j5,j6,rfl⟩:=Kd.R_slice j4.out))
     go_loopg [7,28] f7 (fun kq j7 j8 w'=>∃ (j9:List Int) (l5:Int) (l6:Int),j7=.int .i64 l5∧j8=.int .i64 l6∧Aside0 (Dzq.l0 kq l1 j9 l5 (g6.length:Int) l6=some (b4,b5))∧Aside0 (kq≤f7)∧Aside0 (rI w' w (fun _=>True) (.slice j5 g6.length j6) j9)∧Aside0 (bw w w'))
     case atStart=>exact⟨(g6),(0),(0),sD,sD,H',⟨Nat.le_refl _⟩,⟨rX j4.out⟩,⟨pB⟩⟩
     case round =>
      clear H';try clear a9
      obtain⟨j9,l5,l6,rfl,rfl,HA,l7,l8,HB⟩:=hrel;have l9:=(Kd.R_reads' l8.out).1;rw[l9] at l8;(try simp only[l9])
      cases gk with
      | zero=>exact absurd HA.out (by simp [Dzq.l0])
      | succ k2 =>
       have H:=HA.out;clear HA;simp only[Dzq.l0] at H;by_cases m0:l6 < (g6.length:Int)
       ·rw[if_pos m0] at H;have m4:=dE m0;have m5:=m4;(try simp only[l9] at m5)
        clear m0;obtain⟨m6,H⟩:=iN H;obtain⟨m7,H⟩:=iO H;have m8:decide (l6 < (j9.length:Int))=true:=dE m7;have m9:=m8;(try simp only[l9] at m9)
        clear m7;by_cases n0:l6 < (l1.length:Int)
        ·rw[if_pos n0] at H;have n7:=dE n0;have n8:=n7;(try simp only[l9] at n8)
         clear n0;by_cases n9:(wrap64 ((wrap64 ((rd j9 l6) - l5)) - (rd l1 l6))) < 0
         ·rw[if_pos n9] at H;have o0:decide ((wrap64 ((wrap64 ((rd j9 l6) - l5)) - (rd l1 l6))) < 0)=true:=dE n9;have o8:decide ((IntKind.i64.wrap ((IntKind.i64.wrap ((rd j9 l6) - l5)) - (rd l1 l6))) < 0)=true:=by have h_:=o0;first|exact h_|(simp only[i64_w];exact h_)
          clear n9;obtain⟨o9,p0⟩:∃ y_:List Int,y_=(j9.set (l6:Int).toNat (wrap64 ((wrap64 ((wrap64 ((rd j9 l6) - l5)) - (rd l1 l6)))+1000000000))):=⟨_,rfl⟩;replace H:(Dzq.l0 k2 l1 o9 1 (g6.length:Int) (wrap64 (l6+1)))=some (b4,b5):=yE p0 H
          have p4:=aM p0;clear p0;have H':=aM H;clear H;obtain⟨p7,p9,r5,r6,r7⟩:=aI (Kd.R_reads' l8.out).2.2 l6;cases p9;obtain⟨r8,r9,t4,t5,t6⟩:=aI d8.out l6;cases r9
          replace t4:=hB HB t4;have t7:0≤(l6:Int):=oE aS
          have t8:(l6:Int) < ((j9.length:Int):Int):=oE aS
          obtain⟨t9,y9,z3,z4,z5,z6,z7⟩:=Kd.R_form l8.out (by omega)
          (first|cases z3|(injection z3 with ea_ en_ ec_;(first|subst ea_|(injection ea_ with ea_;subst ea_));subst ec_;clear en_))
          have z8:=aM z4;have z9:=aM z7;clear z4 z5 z7;(first|simp only[add_plain] at r5|skip)
          obtain⟨B0,B5⟩:=Kd.R_celln 0 l8.out (l6:Int) t7 t8;replace t7:=eq_true t7;replace t8:=eq_true t8;have B9:=Kd.R_putg l8.out (l6:Int) (wrap64 ((wrap64 ((wrap64 ((rd j9 l6) - l5)) - (rd l1 l6)))+1000000000));go_wp2_with (first|((with_reducible refine gate_store (t:=3) (p:=54) rfl ?_);refine store_event (t:=3) (p:=54) (v:=?vo_w21) (w1:=(wr.setCell ⟨t9,(l6:Int).toNat,none⟩ (.int .i64 (wrap64 ((wrap64 ((wrap64 ((rd j9 l6) - l5)) - (rd l1 l6)))+1000000000))))) ?hg ?ho ?hn ?hr ?_;(case ho=>rfl);(case hg=>rfl);(case hn=>rfl);(case hr=>first|(go_simp;done)|(go_simp;rfl));intro C0 hw;have hg:wr.grownBy C0 (some t9):=(by rw[hw];exact B9.2);have hp_:rI C0 w (fun _=>True) (.slice (some ⟨t9,0,none⟩) j9.length j6) o9:=(by rw[hw,p4.out];exact B9.1);clear B9;replace l8:=aM (hp_);replace HB:=aM ((by rw[hw];exact below_set (HB.out) z8.out:bw w C0));clear hg hw hp_))
          (try simp only[← l9])
          go_roundg k2
          case measure=>have:=f6.out;have:=l7.out;omega
          case rel=>exact⟨(o9),(1),(wrap64 (l6+1)),sD,sD,H',⟨by have:=f6.out;have:=l7.out;omega⟩,⟨by(try simp only[l9]);(with_reducible repeat(first|apply Kd.R_alloc|apply Kd.R_drewN|apply Kd.R_drew));exact l8.out⟩,⟨pB⟩⟩
         ·rw[if_neg n9] at H;have o0:decide ((wrap64 ((wrap64 ((rd j9 l6) - l5)) - (rd l1 l6))) < 0)=false:=decide_eq_false n9;have o8:decide ((IntKind.i64.wrap ((IntKind.i64.wrap ((rd j9 l6) - l5)) - (rd l1 l6))) < 0)=false:=by have h_:=o0;first|exact h_|(simp only[i64_w];exact h_)
          clear n9;obtain⟨C1,C2⟩:∃ y_:List Int,y_=(j9.set (l6:Int).toNat (wrap64 ((wrap64 ((rd j9 l6) - l5)) - (rd l1 l6)))):=⟨_,rfl⟩;replace H:(Dzq.l0 k2 l1 C1 0 (g6.length:Int) (wrap64 (l6+1)))=some (b4,b5):=yE C2 H
          have C3:=aM C2;clear C2;have H':=aM H;clear H;obtain⟨p7,p9,r5,r6,r7⟩:=aI (Kd.R_reads' l8.out).2.2 l6;cases p9;obtain⟨r8,r9,t4,t5,t6⟩:=aI d8.out l6;cases r9
          replace t4:=hB HB t4;have C4:0≤(l6:Int):=oE aS
          have C6:(l6:Int) < ((j9.length:Int):Int):=oE aS
          obtain⟨C7,C8,C9,D2,D3,D4,D5⟩:=Kd.R_form l8.out (by omega)
          (first|cases C9|(injection C9 with ea_ en_ ec_;(first|subst ea_|(injection ea_ with ea_;subst ea_));subst ec_;clear en_))
          have D6:=aM D2;have D7:=aM D5;clear D2 D3 D5;(first|simp only[add_plain] at r5|skip)
          obtain⟨D8,D9⟩:=Kd.R_celln 0 l8.out (l6:Int) C4 C6;replace C4:=eq_true C4;replace C6:=eq_true C6;have E0:=Kd.R_putg l8.out (l6:Int) (wrap64 ((wrap64 ((rd j9 l6) - l5)) - (rd l1 l6)));go_wp2_with (first|((with_reducible refine gate_store (t:=3) (p:=54) rfl ?_);refine store_event (t:=3) (p:=54) (v:=?vo_w24) (w1:=(wr.setCell ⟨C7,(l6:Int).toNat,none⟩ (.int .i64 (wrap64 ((wrap64 ((rd j9 l6) - l5)) - (rd l1 l6)))))) ?hg ?ho ?hn ?hr ?_;(case ho=>rfl);(case hg=>rfl);(case hn=>rfl);(case hr=>first|(go_simp;done)|(go_simp;rfl));intro E1 hw;have hg:wr.grownBy E1 (some C7):=(by rw[hw];exact E0.2);have hp_:rI E1 w (fun _=>True) (.slice (some ⟨C7,0,none⟩) j9.length j6) C1:=(by rw[hw,C3.out];exact E0.1);clear E0;replace l8:=aM (hp_);replace HB:=aM ((by rw[hw];exact below_set (HB.out) D6.out:bw w E1));clear hg hw hp_))
          (try simp only[← l9])
          go_roundg k2
          case measure=>have:=f6.out;have:=l7.out;omega
          case rel=>exact⟨(C1),(0),(wrap64 (l6+1)),sD,sD,H',⟨by have:=f6.out;have:=l7.out;omega⟩,⟨by(try simp only[l9]);(with_reducible repeat(first|apply Kd.R_alloc|apply Kd.R_drewN|apply Kd.R_drew));exact l8.out⟩,⟨pB⟩⟩
        ·rw[if_neg n0] at H;have n7:decide (l6 < (l1.length:Int))=false:=decide_eq_false n0;have n8:=n7;(try simp only[l9] at n8)
         clear n0;by_cases E2:(wrap64 ((rd j9 l6) - l5)) < 0
         ·rw[if_pos E2] at H;have E3:decide ((wrap64 ((rd j9 l6) - l5)) < 0)=true:=dE E2;have E4:decide ((IntKind.i64.wrap ((rd j9 l6) - l5)) < 0)=true:=by have h_:=E3;first|exact h_|(simp only[i64_w];exact h_)
          clear E2;obtain⟨E5,E6⟩:∃ y_:List Int,y_=(j9.set (l6:Int).toNat (wrap64 ((wrap64 ((rd j9 l6) - l5))+1000000000))):=⟨_,rfl⟩;replace H:(Dzq.l0 k2 l1 E5 1 (g6.length:Int) (wrap64 (l6+1)))=some (b4,b5):=yE E6 H
          have E7:=aM E6;clear E6;have H':=aM H;clear H;obtain⟨p7,p9,r5,r6,r7⟩:=aI (Kd.R_reads' l8.out).2.2 l6;cases p9;have E8:0≤(l6:Int):=oE aS
          have E9:(l6:Int) < ((j9.length:Int):Int):=oE aS
          obtain⟨F0,F2,F3,F4,F5,F6,F7⟩:=Kd.R_form l8.out (by omega)
          (first|cases F3|(injection F3 with ea_ en_ ec_;(first|subst ea_|(injection ea_ with ea_;subst ea_));subst ec_;clear en_))
          have F8:=aM F4;have F9:=aM F7;clear F4 F5 F7;(first|simp only[add_plain] at r5|skip)
          obtain⟨G5,G9⟩:=Kd.R_celln 0 l8.out (l6:Int) E8 E9;replace E8:=eq_true E8;replace E9:=eq_true E9;have H5:=Kd.R_putg l8.out (l6:Int) (wrap64 ((wrap64 ((rd j9 l6) - l5))+1000000000));go_wp2_with (first|((with_reducible refine gate_store (t:=3) (p:=54) rfl ?_);refine store_event (t:=3) (p:=54) (v:=?vo_w28) (w1:=(wr.setCell ⟨F0,(l6:Int).toNat,none⟩ (.int .i64 (wrap64 ((wrap64 ((rd j9 l6) - l5))+1000000000))))) ?hg ?ho ?hn ?hr ?_;(case ho=>rfl);(case hg=>rfl);(case hn=>rfl);(case hr=>first|(go_simp;done)|(go_simp;rfl));intro H6 hw;have hg:wr.grownBy H6 (some F0):=(by rw[hw];exact H5.2);have hp_:rI H6 w (fun _=>True) (.slice (some ⟨F0,0,none⟩) j9.length j6) E5:=(by rw[hw,E7.out];exact H5.1);clear H5;replace l8:=aM (hp_);replace HB:=aM ((by rw[hw];exact below_set (HB.out) F8.out:bw w H6));clear hg hw hp_))
          (try simp only[← l9])
          go_roundg k2
          case measure=>have:=f6.out;have:=l7.out;omega
          case rel=>exact⟨(E5),(1),(wrap64 (l6+1)),sD,sD,H',⟨by have:=f6.out;have:=l7.out;omega⟩,⟨by(try simp only[l9]);(with_reducible repeat(first|apply Kd.R_alloc|apply Kd.R_drewN|apply Kd.R_drew));exact l8.out⟩,⟨pB⟩⟩
         ·rw[if_neg E2] at H;have E3:decide ((wrap64 ((rd j9 l6) - l5)) < 0)=false:=decide_eq_false E2;have E4:decide ((IntKind.i64.wrap ((rd j9 l6) - l5)) < 0)=false:=by have h_:=E3;first|exact h_|(simp only[i64_w];exact h_)
          clear E2;obtain⟨H7,H8⟩:∃ y_:List Int,y_=(j9.set (l6:Int).toNat (wrap64 ((rd j9 l6) - l5))):=⟨_,rfl⟩;replace H:(Dzq.l0 k2 l1 H7 0 (g6.length:Int) (wrap64 (l6+1)))=some (b4,b5):=yE H8 H
          have H9:=aM H8;clear H8;have H':=aM H;clear H;obtain⟨p7,p9,r5,r6,r7⟩:=aI (Kd.R_reads' l8.out).2.2 l6;cases p9;have I0:0≤(l6:Int):=oE aS
          have I3:(l6:Int) < ((j9.length:Int):Int):=oE aS
          obtain⟨I4,I5,I6,I7,I8,I9,J0⟩:=Kd.R_form l8.out (by omega)
          (first|cases I6|(injection I6 with ea_ en_ ec_;(first|subst ea_|(injection ea_ with ea_;subst ea_));subst ec_;clear en_))
          have J1:=aM I7;have J2:=aM J0;clear I7 I8 J0;(first|simp only[add_plain] at r5|skip)
          obtain⟨J3,J4⟩:=Kd.R_celln 0 l8.out (l6:Int) I0 I3;replace I0:=eq_true I0;replace I3:=eq_true I3;have J5:=Kd.R_putg l8.out (l6:Int) (wrap64 ((rd j9 l6) - l5));go_wp2_with (first|((with_reducible refine gate_store (t:=3) (p:=54) rfl ?_);refine store_event (t:=3) (p:=54) (v:=?vo_w31) (w1:=(wr.setCell ⟨I4,(l6:Int).toNat,none⟩ (.int .i64 (wrap64 ((rd j9 l6) - l5))))) ?hg ?ho ?hn ?hr ?_;(case ho=>rfl);(case hg=>rfl);(case hn=>rfl);(case hr=>first|(go_simp;done)|(go_simp;rfl));intro J6 hw;have hg:wr.grownBy J6 (some I4):=(by rw[hw];exact J5.2);have hp_:rI J6 w (fun _=>True) (.slice (some ⟨I4,0,none⟩) j9.length j6) H7:=(by rw[hw,H9.out];exact J5.1);clear J5;replace l8:=aM (hp_);replace HB:=aM ((by rw[hw];exact below_set (HB.out) J1.out:bw w J6));clear hg hw hp_))
          (try simp only[← l9])
          go_roundg k2
          case measure=>have:=f6.out;have:=l7.out;omega
          case rel=>exact⟨(H7),(0),(wrap64 (l6+1)),sD,sD,H',⟨by have:=f6.out;have:=l7.out;omega⟩,⟨by(try simp only[l9]);(with_reducible repeat(first|apply Kd.R_alloc|apply Kd.R_drewN|apply Kd.R_drew));exact l8.out⟩,⟨pB⟩⟩
       ·rw[if_neg m0] at H;have m4:decide (l6 < (g6.length:Int))=false:=decide_eq_false m0;have m5:=m4;(try simp only[l9] at m5)
        clear m0;replace H:=bS H;obtain⟨J7,J8,H⟩:=H;replace H:(some (J7,0))=some (b4,b5):=H;have J9:=aM J8;clear J8;obtain⟨rfl,rfl⟩:=q2 H;go_wp2_with (first|((with_reducible refine gc 92 rfl ?_);refine gC 92 (some 57) Try.func92 #[.slice j5 j9.length j6] ?_;(with_reducible refine(Azb.calls k2 (fun k_=>some k_=(.slice j5 j9.length j6:Value).ownBlock) (.slice j5 j9.length j6) j9 J7 w _ ?_ ?_ J9.out).mono ?_);exact pB;exact Kd.R_tight rfl l8.out;rintro e K0 ⟨K1,rfl,j3,hb,hkp⟩;refine⟨_,rfl,?_⟩;have K2:=aM (Kd.R_mono (ok':=fun k_=>True) j3 (fun k_ hk_=>trivial));replace HB:=aM (hb);clear l8 hb hkp j3))
        go_ret2
        exact⟨_,eW,rX K2.out,pB⟩



end Go.Proofs.Ytbnpcplckcipfaa.Print
