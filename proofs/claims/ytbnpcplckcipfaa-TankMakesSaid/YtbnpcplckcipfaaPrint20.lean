import Derived.Test.YtbnpcplckcipfaaPrint0
import Derived.Test.YtbnpcplckcipfaaPrint15
import Derived.Test.YtbnpcplckcipfaaPrint10
namespace Go.Proofs.Ytbnpcplckcipfaa.Print
open Go.RowKit Go.Proofs.YtbnpcplckcipfaaW.PrintWords Go.Proofs.YtbnpcplckcipfaaW.PrintLast Go.Proofs.YtbnpcplckcipfaaW.PrintMore
attribute [local go_sem] max2_int min2_int max_two min_two max_three min_three max_four min_four
set_option linter.unusedVariables false
set_option maxRecDepth 100000
set_option maxHeartbeats 8000000
set_option linter.unusedSimpArgs false

theorem goesvL_ {P:Program} {ops:Array Oper} {Q:Exit→Act→World→Prop} {rest:List Oper} {oi:Oper} {a:Act} {w:World} (N:Option Tmp) (hd:oi.dst=N) (hg:oi.guard=none) {f:FuncId} {caps:Array Value} {fn:Func} {c:Operand} {ts:Array TypeId} (hf:P.funcs[f]?=some fn) (hname:(fn.name == "runtime.NumGoroutine")=false) (hb:fn.body.isSome=true)
  (hop:oi.op=.call { callee:=.value c,args:=#[],argTypes:=ts }) (hc:a.eval c=.func (.func f) #[] caps)
  (h:Calls P f caps w fun e w'=>∃ v,e=.returned v∧wpList P ops Q rest (a.put N v) w'):wpList P ops Q (oi :: rest) a w:=by
 refine wpList_plain hg fun K hK=>?_
 have he:=enters_ hf hname hb caps w;have hrun:(execOp a.eval oi).run P w=.ok (.enter f caps) w:=by
  unfold execOp;simp [hop,resolve,hc,Deferred.ofValue,invoke,he]
 unfold Oper.wp;rw[hrun,Oper.upon_enter];refine h.mono fun e w'' hh=>?_
 obtain⟨v,rfl,hk⟩:=hh;subst hd;exact hK _ _ hk
/-- What 'products' does with functions one after the other. -/
structure Steps_ (xs:List (Nat × Array Value)) (ad:Addr) (I:Nat→World→Prop) (Q:Int→World→Prop):Prop where
 cell:∀ j W,I j W→∀ i x,xs[i]?=some x→W.cell? (ad.add i)=some (.func (.func x.1) #[] x.2)
 step:∀ j W x,I j W→xs[j]?=some x→(∃ fn,Try.prog.funcs[x.1]?=some fn∧(fn.name == "runtime.NumGoroutine")=false∧fn.body.isSome=true)∧Calls Try.prog x.1 x.2 W fun e W'=>∃ r:Int,e=.returned (.int .i64 r)∧(r=0→I (j+1) W')∧(r≠0→Q r W')
 done:∀ W,I xs.length W→Q 0 W
theorem Izz.calls (xs:List (Nat × Array Value)) (ad:Addr) (c:Nat) (w:World) (I:Nat→World→Prop) (Q:Int→World→Prop) (hS:Steps_ xs ad I Q) (a6:I 0 w) (hn:xs.length < 4611686018427387904) :
  Calls Try.prog 67 #[.slice (some ad) xs.length c] w fun e w'=>∃ r:Int,e=.returned (.int .i64 r)∧Q r w':=by
 have HS:=aM hS;have H0:=aM a6;have HN:=aM hn;clear hS a6 hn;go_enter Try.func67,Try.ntmps67
 go_wp2
 go_loopg [8] (xs.length+1) (fun kq a7 w'=>∃ (j_:Nat),a7=.int .i64 (j_:Int)∧Aside0 (j_+kq=xs.length+1∧0 < kq)∧Aside0 (I j_ w'))
 case atStart=>exact⟨0,rfl,⟨by omega,by omega⟩,H0⟩
 case round =>
  obtain⟨j_,rfl,HJ,HI⟩:=hrel;cases gk with
  | zero=>exact absurd HJ.out.2 (by omega)
  | succ k1 =>
   by_cases c5:(j_:Int) < (xs.length:Int)
   ·have a8:=dE c5;have a9:decide (j_ < xs.length)=true:=dE (by omega)
    obtain⟨x_,hx_⟩:∃ x_,xs[j_]?=some x_:=⟨xs[j_]'(by omega),List.getElem?_eq_getElem (by omega)⟩
    have b4:=aM c5;clear c5;have b5:=HS.out.cell j_ wr HI.out j_ x_ hx_;have HX:=aM hx_;clear hx_;have b6:(0:Int)≤(j_:Int):=by omega
    obtain⟨⟨fn_,hf_,hn_,hb_⟩,hC_⟩:=HS.out.step j_ wr x_ HI.out HX.out;have HF:=aM hf_;have HNM:=aM hn_;have HBD:=aM hb_;have HC:=aM hC_;clear hf_ hn_ hb_ hC_;go_wp2_with (first|(refine goesvL_ (some 13) rfl rfl (f:=x_.1) (caps:=x_.2) HF.out HNM.out HBD.out rfl (by first|rfl|(simp [Act.eval];done)) ?_;refine HC.out.mono ?_;rintro e b7 ⟨r_,rfl,b8,b9⟩;refine⟨_,rfl,?_⟩;have d6:=aM b8;have d7:=aM b9;clear b8 b9))
    ·rename_i hr_
     go_ret
     exact⟨r_,rfl,d7.out (by simpa using hr_)⟩
    ·rename_i hr_
     go_roundg k1
     case measure=>omega
     case rel =>
      refine⟨j_+1,?_,⟨by have:=HJ.out;omega,by have:=HJ.out;have:=b4.out;omega⟩,⟨d6.out (by simpa using hr_)⟩⟩
      have e_:wrap64 ((j_:Int)+1)=((j_+1:Nat):Int):=by have:=HN.out;have:=b4.out;unfold wrap64;omega
      rw[e_]
    all_goals (exfalso;have:=b4.out;omega)
   ·have a8:decide ((j_:Int) < (xs.length:Int))=false:=decide_eq_false c5;have a9:decide (j_ < xs.length)=false:=decide_eq_false (by omega)
    have b4:=aM c5;clear c5;go_wp2
    go_ret
    refine⟨_,rfl,HS.out.done _ ?_⟩;have e_:j_=xs.length:=by have:=b4.out;have:=HJ.out;omega
    rw[← e_];exact HI.out

/-- A function value that computes a product: where it lies,and what it has captured. -/
structure Thk (W:World) (b gp:Nat) (A:Option Addr) (n c:Nat) (A':Option Addr) (n' c':Nat):Prop where
 tp:W.heap[b]?=some (.cells #[.pointer (some ⟨gp,0,none⟩)] 82 (0,0))
 fa:W.heap[b+1]?=some (.cells #[.slice A n c] 31 (0,0))
 fb:W.heap[b+2]?=some (.cells #[.slice A' n' c'] 31 (0,0))
 lt:gp < b
theorem Thk.below {W W1:World} {b gp n c n' c':Nat} {A A':Option Addr} (h:Thk W b gp A n c A' n' c') (hb:Below W.heap.size W W1):Thk W1 b gp A n c A' n' c' :=
 ⟨(hb.block _ (Array.getElem?_eq_some_iff.1 h.tp).1).trans h.tp,(hb.block _ (Array.getElem?_eq_some_iff.1 h.fa).1).trans h.fa,(hb.block _ (Array.getElem?_eq_some_iff.1 h.fb).1).trans h.fb,h.lt⟩
theorem Thk.keep {W W1:World} {b gp n c n' c':Nat} {A A':Option Addr} (h:Thk W b gp A n c A' n' c') (a6:W1.heap[b]?=W.heap[b]?) (a7:W1.heap[b+1]?=W.heap[b+1]?) (a8:W1.heap[b+2]?=W.heap[b+2]?):Thk W1 b gp A n c A' n' c' :=
 ⟨a6.trans h.tp,a7.trans h.fa,a8.trans h.fb,h.lt⟩
def thkFn (f b:Nat):Nat × Array Value:=(f,#[.pointer (some ⟨b+1,0,none⟩),.pointer (some ⟨b+2,0,none⟩),.pointer (some ⟨b,0,none⟩)])
theorem Ezk.calls (gp:Nat) (A:Option Addr) (n c:Nat) (A':Option Addr) (n' c':Nat) (w:World) (hgp:gp < w.heap.size) :
  Calls Try.prog 68 #[.pointer (some ⟨gp,0,none⟩),.slice A n c,.slice A' n' c'] w fun e w'=>∃ b,e=.returned (.func (.func (thkFn 96 b).1) #[] (thkFn 96 b).2)∧Thk w' b gp A n c A' n' c'∧w.heap.size≤b∧bw w w':=by
 have hmf_:∀ (fn:Fn) (first cap:Array Value) (w:World),(Instr.makeFunc fn first cap).run Try.prog w=.ok (.func fn first cap) w:=fun _ _ _ _=>rfl
 have HGP:=aM hgp;clear hgp;go_enter Try.func68,Try.ntmps68
 go_wp2
 go_ret
 refine⟨w.heap.size,rfl,⟨?_,?_,?_,HGP.out⟩,Nat.le_refl _,?_⟩
 ·exact blk_alloc (blk_alloc (blk_new w _) _) _
 ·have:=blk_alloc (blk_new (w.alloc (Obj.cells #[Value.pointer (some { block:=gp,off:=0 })] 82)) (Obj.cells #[.slice A n c] 31)) (.cells #[.slice A' n' c'] 31);simpa using this
 ·have:=blk_new (((w.alloc (Obj.cells #[Value.pointer (some { block:=gp,off:=0 })] 82)).alloc (Obj.cells #[Value.slice A n c] 31))) (Obj.cells #[.slice A' n' c'] 31);simpa using this
 ·exact(((Below.refl _ _).alloc (Nat.le_refl _) _).alloc (by simp) _).alloc (by simp;omega) _
/-- The step that computes a product. -/
theorem Hzj.calls (k b gp:Nat) (A:Option Addr) (c:Nat) (l:List Int) (A':Option Addr) (c':Nat) (l':List Int) (u:Value) (a6:List Int) (a7:Int) (w:World) (hT:Thk w b gp A l.length c A' l'.length c') (hp:w.heap[gp]?=some (.cells #[u] 31 (0,0)))
  (a8:cI w A l) (a9:l.length≤c) (b4:Kd.C (Kd.int .i64) w A' l'.length l') (b5:l'.length≤c') (h:Czy.f k l l'=some (a6,a7)) :
  Calls Try.prog (thkFn 96 b).1 (thkFn 96 b).2 w fun e w'=>∃ (b6:World) (v:Value),e=.returned (.int .i64 a7)∧w'=b6.setCell ⟨gp,0,none⟩ v∧rI b6 w (fun _=>True) v a6∧bw w b6:=by
 have HA:=aM h;have b7:=aM a8;have b8:=aM a9;have b9:=aM b4;have d6:=aM b5;have HT:=aM hT;have HP:=aM hp;have HB:=aM (Below.refl w.heap.size w);have d7:=(blk_cell hT.tp 0).trans rfl;have d8:=(blk_cell hT.fa 0).trans rfl;have d9:=(blk_cell hT.fb 0).trans rfl;clear h a8 a9 b4 b5 hT hp;show Calls Try.prog 96 #[.pointer (some ⟨b+1,0,none⟩),.pointer (some ⟨b+2,0,none⟩),.pointer (some ⟨b,0,none⟩)] w _
 go_enter Try.func96,Try.ntmps96
 go_wp2_with (first|((with_reducible refine gc 97 rfl ?_);refine gC 97 (some 9) Try.func97 #[.slice A l.length c,.slice A' l'.length c'] ?_;(with_reducible refine(Czy.calls k _ _ l _ _ l' a6 a7 _ ?_ ?_ ?_ ?_ HA.out).mono ?_);exact b7.out;exact b8.out;exact b9.out;exact d6.out;rintro e e6 ⟨e7,rfl,e8,hb⟩;refine⟨_,rfl,?_⟩;obtain⟨Ao_,co_,eo_⟩:=Kd.R_slice e8;subst eo_;have HO:=aM e8;have e9:=kb HP hb;have f4:=(blk_cell (kB (aM HT.out.tp) hb) 0).trans rfl;have f5:=(blk_cell e9.out 0).trans rfl;have f6:=blk_frozen e9.out 0;replace HB:=aM hb;clear hb e8))
 go_ret
 exact⟨_,_,rfl,rfl,HO.out,HB.out⟩
/-- What the pure text tells of a step's making: nothing. -/
def Ezk.f (_:Unit) (_ _:List Int):Option Int:=some 0
theorem fun_lit_step {P:Program} {ops:Array Oper} {Q:Exit→Act→World→Prop} {o:Oper} {a:Act} {Kc:Act→World→Prop} {W:World} (hw:Region.wanted o (yielded ops a.tmps)=true) {N:Tmp} (_hd:o.dst=some N) {cs:Array Value} {t:TypeId} {n:Nat}
  (hrun:(execOp a.eval o).run P W=.ok (.value (.slice (some ⟨W.heap.size,0,none⟩) n n)) (W.alloc (.cells cs t (0,0))))
  (h:∀ g a6,a6.heap[g]?=some (.cells cs t (0,0))→Below W.heap.size W a6→Kc (a.put o.dst (.slice (some ⟨g,0,none⟩) n n)) a6):if Region.wanted o (yielded ops a.tmps)=true then Oper.wp P o a W Kc Q else Kc (a.put o.dst undef) W :=
 event_step hw hrun (h _ _ (blk_new W _) (below_alloc (Below.refl _ _) _))
theorem V_keptC {W W_:World} {e base n c:Nat} {ok S:Nat→Prop} {A:Option Addr} {xs:List Int} (h:Kd.V (Kd.int .i64) e W base ok (.slice A n c) xs) (hk:Kept W W_ S) (hne:∀ k,ok k→¬ S k):Kd.C (Kd.int .i64) W_ A n xs:=by
 obtain⟨hn,_,_⟩:=Kd.V_reads' h;have a6:=Kd.V_reads' (Kd.V_step h (fun k hk1 hk2=>hk.2 k hk2 (hne k hk1)))
 rw[hn];exact a6.2.2
theorem C_V {w:World} {e base n c:Nat} {A:Option Addr} {xs:List Int} (h:Kd.C (Kd.int .i64) w A n xs) (hc:n≤c):Kd.V (Kd.int .i64) e w base (fun _=>True) (.slice A n c) xs:=by
 have hn:=h.1;subst hn;refine⟨A,c,rfl,hc,fun W' hW=>⟨h.1,h.2.1,fun hp=>?_⟩⟩
 obtain⟨ad,a6,a7⟩:=h.2.2 hp;refine⟨ad,a6,fun j q hj=>?_⟩
 obtain⟨cs,a8,a9,b4⟩:=a7 j q hj;refine⟨cs,a8,a9,fun i u hu=>?_⟩
 have b5:=b4 i u hu;have b6:=hW _ trivial (World.block_lt_of_cell? w _ b5);rw[← b5];simp only[World.cell?,b6]
/-- What two steps one after the other come to. -/
def Dzv.f (k:Nat) (l1 l1' l2 l2':List Int):Option (Int × List Int × List Int):=(Czy.f k l1 l1').bind fun x=>if x.2=0 then(Czy.f k l2 l2').bind fun y=>some (y.2,x.1,y.1) else some (x.2,x.1,([]:List Int))
theorem Dzv.mono:∀ a6 a7 a8 a9 k,LeO (Dzv.f k a6 a7 a8 a9) (Dzv.f (k+1) a6 a7 a8 a9):=by
 intro a6 a7 a8 a9 k;unfold Dzv.f;exact LeO.bind (Czy.mono _ _ k) (fun _=>LeO.ite (LeO.bind (Czy.mono _ _ k) (fun _=>LeO.refl _)) (LeO.refl _))
theorem kept_far {w a6:World} {S:Nat→Prop} {B g:Nat} (h:Below B w a6) (hB:w.heap.size≤B) (hg:S g) (v:Value):Kept w (a6.setCell ⟨g,0,none⟩ v) S :=
 Kept.setCell (p:=⟨g,0,none⟩) ⟨h.size,fun i hi _=>h.block i (Nat.lt_of_lt_of_le hi hB)⟩ (.inl hg) v
theorem kept_trans {a b c:World} {S:Nat→Prop} (h:Kept a b S) (h':Kept b c S):Kept a c S :=
 ⟨Nat.le_trans h.1 h'.1,fun i hi hn=>(h'.2 i (Nat.lt_of_lt_of_le hi h.1) hn).trans (h.2 i hi hn)⟩
/-- What two products leave. -/
structure Fin2 (w0 w W:World) (gp gq:Nat) (vp vq:Value) (x y:List Int):Prop where
 p:W.heap[gp]?=some (.cells #[vp] 31 (0,0))
 q:W.heap[gq]?=some (.cells #[vq] 31 (0,0))
 rp:rI W w0 (fun k_=>w.heap.size≤k_∧some k_≠vq.ownBlock) vp x
 rq:rI W w0 (fun k_=>w.heap.size≤k_∧some k_≠vp.ownBlock) vq y
 below:bw w0 W
 kept:Kept w W (fun k_=>k_=gp∨k_=gq)
theorem below_far {B:Nat} {a6 w a7:World} {g:Nat} (h:Below B a6 w) (hB:B≤w.heap.size) (a8:bw w a7) (hg:B≤g) (v:Value):Below B a6 (a7.setCell ⟨g,0,none⟩ v) :=
 Below.setCell (below_then h hB a8) hg v
set_option maxHeartbeats 2000000 in
theorem Dzv.calls (k a6 a7 gp gq:Nat) (a8:Option Addr) (a9:Nat) (l1:List Int) (b4:Option Addr) (b5:Nat) (b6:List Int) (b7:Option Addr) (c2:Nat) (l2:List Int) (b8:Option Addr) (b9:Nat) (d6:List Int) (d7:Int) (d8 d9:List Int) (g cg:Nat) (e6 w:World) (hB:Below e6.heap.size e6 w)
  (hg:w.heap[g]?=some (.cells #[.func (.func (thkFn 96 a6).1) #[] (thkFn 96 a6).2,.func (.func (thkFn 96 a7).1) #[] (thkFn 96 a7).2] 80 (0,0)))
  (e7:Thk w a6 gp a8 l1.length a9 b4 b6.length b5) (e8:Thk w a7 gq b7 l2.length c2 b8 d6.length b9) (hp:w.heap[gp]?=some (.cells #[.slice none 0 0] 31 (0,0))) (hq:w.heap[gq]?=some (.cells #[.slice none 0 0] 31 (0,0))) (hne:gp≠gq) (hgp:e6.heap.size≤gp) (hgq:e6.heap.size≤gq) (e9:gp < a7) (f4:gq < a6)
  (f5:∀ W_,Kept w W_ (fun k_=>k_=gp∨k_=gq)→cI W_ a8 l1) (f6:l1.length≤a9) (f7:∀ W_,Kept w W_ (fun k_=>k_=gp∨k_=gq)→cI W_ b4 b6) (f8:b6.length≤b5)
  (f9:∀ W_,Kept w W_ (fun k_=>k_=gp∨k_=gq)→cI W_ b7 l2) (g4:l2.length≤c2) (g5:∀ W_,Kept w W_ (fun k_=>k_=gp∨k_=gq)→cI W_ b8 d6) (g6:d6.length≤b9)
  (h:Dzv.f k l1 b6 l2 d6=some (d7,d8,d9)) :
  Calls Try.prog 67 #[.slice (some ⟨g,0,none⟩) 2 cg] w fun e w'=>e=.returned (.int .i64 d7)∧∃ vp vq:Value,Fin2 e6 w w' gp gq vp vq d8 d9:=by
 have hfn:∃ fn,Try.prog.funcs[96]?=some fn∧(fn.name == "runtime.NumGoroutine")=false∧fn.body.isSome=true:=⟨_,Try.func96,by kernel_rfl,rfl⟩
 have hgl:=blk_lt hg;have hgne:g≠gp∧g≠gq:=⟨blk_ne hg hp (by decide),blk_ne hg hq (by decide)⟩
 have hK1:∀ (g7:World) (v:Value),bw w g7→Kept w (g7.setCell ⟨gp,0,none⟩ v) (fun k_=>k_=gp∨k_=gq):=fun g7 v hb=>kept_far hb (Nat.le_refl _) (.inl rfl) v
 have hfar:∀ (W:World) (i:Nat) (o:Obj),Kept w W (fun k_=>k_=gp∨k_=gq)→i≠gp→i≠gq→w.heap[i]?=some o→W.heap[i]?=some o:=fun W i o hk g8 g9 ho=>blk_kept ho hk (fun e=>e.elim g8 g9)
 have hBs:=hB.size;let I:Nat→World→Prop:=fun j W=>Kept w W (fun k_=>k_=gp∨k_=gq)∧match j with
  | 0=>W=w
  | 1=>∃ (g7:World) (v:Value) (x:List Int),W=g7.setCell ⟨gp,0,none⟩ v∧Czy.f k l1 b6=some (x,0)∧rI g7 w (fun _=>True) v x∧bw w g7
  | _=>∃ (vp vq:Value) (x y:List Int),Fin2 e6 w W gp gq vp vq x y∧Dzv.f k l1 b6 l2 d6=some (0,x,y)
 let Qr:Int→World→Prop:=fun r W=>∃ (vp vq:Value) (x y:List Int),Fin2 e6 w W gp gq vp vq x y∧Dzv.f k l1 b6 l2 d6=some (r,x,y)
 have hS:Steps_ [thkFn 96 a6,thkFn 96 a7] ⟨g,0,none⟩ I Qr:=by
  refine⟨fun j W hI i x hx=>?_,fun j W x hI hx=>?_,fun W hI=>hI.2⟩
  ·rw[add_plain];have g8:=hfar W g _ hI.1 hgne.1 hgne.2 hg;rw[blk_cell g8 i];match i,hx with
   | 0,hx=>cases hx;rfl
   | 1,hx=>cases hx;rfl
   | i+2,hx=>simp at hx
  ·match j,hx,hI with
   | 0,hx,hI =>
    cases hx
    obtain⟨hk,hw⟩:=hI;cases hw
    refine⟨hfn,?_⟩;unfold Dzv.f at h;rw[Option.bind_eq_some_iff] at h;obtain⟨⟨x,j3⟩,hm,h⟩:=h;refine(Hzj.calls k a6 gp a8 a9 l1 b4 b5 b6 _ x j3 w e7 hp (f5 w hk) f6 (f7 w hk) f8 hm).mono ?_;rintro e W' ⟨g7,v,rfl,rfl,hR,hb⟩;refine⟨j3,rfl,fun j4=>⟨hK1 g7 v hb,g7,v,x,rfl,j4 ▸ hm,hR,hb⟩,fun j4=>?_⟩
    have hp1:g7.heap[gp]?=some (.cells #[.slice none 0 0] 31 (0,0)):=(hb.block gp (blk_lt hp)).trans hp;have hq1:g7.heap[gq]?=some (.cells #[.slice none 0 0] 31 (0,0)):=(hb.block gq (blk_lt hq)).trans hq;refine⟨v,.slice none 0 0,x,[],⟨blk_put hp1 0 v rfl,blk_far hq1 (Ne.symm hne) v,?_,Kd.R_nil _ _ _ _ _,below_far hB hBs hb hgp v,hK1 g7 v hb⟩,?_⟩
    ·refine Kd.R_mono (Kd.R_far (p:=⟨gp,0,none⟩) (ok:=fun k_=>w.heap.size≤k_) (Kd.R_lower (Kd.R_reok rfl hR (fun k_ hk_=>Kd.R_base hR k_ hk_)) hBs) (fun k_ hk_ e_=>?_) v) (fun k_ hk_=>⟨hk_,by simp [Value.ownBlock]⟩)
     have:=blk_lt hp;subst e_;omega
    ·unfold Dzv.f;rw[hm];simp only[Option.bind_some];rw[if_neg j4]
   | 1,hx,hI =>
    cases hx
    obtain⟨hk,g7,v,x,rfl,hm,hR,hb⟩:=hI;refine⟨hfn,?_⟩;unfold Dzv.f at h;rw[Option.bind_eq_some_iff] at h;obtain⟨⟨x',j3⟩,hm',h⟩:=h;rw[hm] at hm';cases hm'
    simp only[if_true] at h;rw[Option.bind_eq_some_iff] at h;obtain⟨⟨y,j5⟩,j6,h⟩:=h;have hp1:g7.heap[gp]?=some (.cells #[.slice none 0 0] 31 (0,0)):=(hb.block gp (blk_lt hp)).trans hp;have hq1:(g7.setCell ⟨gp,0,none⟩ v).heap[gq]?=some (.cells #[.slice none 0 0] 31 (0,0)):=blk_far ((hb.block gq (blk_lt hq)).trans hq) (Ne.symm hne) v;have j7:Thk (g7.setCell ⟨gp,0,none⟩ v) a7 gq b7 l2.length c2 b8 d6.length b9:=⟨hfar _ _ _ hk (by omega) (by have:=e8.lt;omega) e8.tp,hfar _ _ _ hk (by omega) (by have:=e8.lt;omega) e8.fa,hfar _ _ _ hk (by omega) (by have:=e8.lt;omega) e8.fb,e8.lt⟩
    refine(Hzj.calls k a7 gq b7 c2 l2 b8 b9 d6 _ y j5 _ j7 hq1 (f9 _ hk) g4 (g5 _ hk) g6 j6).mono ?_;rintro e W' ⟨j8,u,rfl,rfl,j9,l5⟩;have hps:gp < w.heap.size:=blk_lt hp;have hqs:gq < w.heap.size:=blk_lt hq;have l6:w.heap.size≤(g7.setCell ⟨gp,0,none⟩ v).heap.size:=hk.1;have hRv:Kd.R (Kd.int .i64) 3 (g7.setCell ⟨gp,0,none⟩ v) w.heap.size (fun k_=>w.heap.size≤k_) v x:=Kd.R_far (p:=⟨gp,0,none⟩) (Kd.R_reok rfl hR (fun k_ hk_=>Kd.R_base hR k_ hk_)) (fun k_ hk_ e_=>by subst e_;omega) v
    have hkk:Kept w (j8.setCell ⟨gq,0,none⟩ u) (fun k_=>k_=gp∨k_=gq):=kept_trans hk (kept_far l5 (Nat.le_refl _) (.inr rfl) u)
    have hFin:Fin2 e6 w (j8.setCell ⟨gq,0,none⟩ u) gp gq v u x y:=by
     refine⟨blk_far ((l5.block gp (by omega)).trans (blk_put hp1 0 v rfl)) hne u,blk_put ((l5.block gq (by omega)).trans hq1) 0 u rfl,?_,?_,below_far (below_far hB hBs hb hgp v) (by omega) l5 hgq u,hkk⟩
     ·refine Kd.R_far (p:=⟨gq,0,none⟩) ?_ (fun k_ hk_ e_=>by subst e_;omega) u
      exact Kd.R_lower (Kd.R_elder' (rX hRv) (fun k_ hk_=>Kd.R_base j9 k_ hk_) l5) hBs
     ·refine Kd.R_far (p:=⟨gq,0,none⟩) ?_ (fun k_ hk_ e_=>by subst e_;omega) u
      refine Kd.R_lower (Kd.R_reok rfl j9 (fun k_ hk_=>⟨Nat.le_trans l6 (Kd.R_base j9 k_ hk_),fun e_=>?_⟩)) (by omega)
      have:=Kd.R_lt hRv k_ e_.symm;have:=Kd.R_base j9 k_ hk_;omega
    have l7:Dzv.f k l1 b6 l2 d6=some (j5,x,y):=by
     unfold Dzv.f;rw[hm];simp only[Option.bind_some,if_true];rw[j6];rfl
    exact⟨j5,rfl,fun j4=>⟨hkk,v,u,x,y,hFin,by rw[l7,j4]⟩,fun _=>⟨v,u,x,y,hFin,l7⟩⟩
   | j+2,hx,hI=>simp at hx
 have hI0:I 0 w:=⟨⟨Nat.le_refl _,fun _ _ _=>rfl⟩,rfl⟩
 refine(Izz.calls [thkFn 96 a6,thkFn 96 a7] ⟨g,0,none⟩ cg w I Qr hS hI0 (by simp)).mono ?_
 rintro e w' ⟨r,rfl,vp,vq,x,y,hF,hf⟩;rw[h] at hf;cases hf
 exact⟨rfl,vp,vq,hF⟩



def Gzx.f (k:Nat) (l0:List Int) (l1:List Int):Option (Int × Int):=(Azy.f k l0).bind fun t342=>(if t342=true then((Azy.f k l1).bind fun t343=>(if t343=true then((Dzj.f k l0 l1).bind fun t344=>(some (t344,0))) else(some (0,3)))) else(some (0,3)))
theorem Gzx.mono:∀ a6 a7 k,LeO (Gzx.f k a6 a7) (Gzx.f (k+1) a6 a7):=by
 intro a6 a7 k;unfold Gzx.f;have i0:=@Azy.mono;have i1:=@Dzj.mono;exact mM
theorem Gzx.calls (k:Nat) (a6:Option Addr) (a7:Nat) (l0:List Int) (a8:Option Addr) (a9:Nat) (l1:List Int) (b4:Int) (b5:Int) (w:World) (b6:cI w a6 l0) (b7:l0.length≤a7) (b8:cI w a8 l1) (b9:l1.length≤a9) (h:Gzx.f k l0 l1=some (b4,b5)) :
  Calls Try.prog 69 #[.slice a6 l0.length a7,.slice a8 l1.length a9] w fun e w'=>e=.returned (.tuple #[.int .i64 b4,.int .i64 b5])∧Drawn0 w w':=by
 have d6:=aM b6;have d7:=aM b7;clear b6 b7;have d8:=aM b8;have d9:=aM b9;clear b8 b9;have H:((Azy.f k l0).bind fun e6=>(if e6=true then((Azy.f k l1).bind fun e7=>(if e7=true then((Dzj.f k l0 l1).bind fun e8=>(some (e8,0))) else(some (0,3)))) else(some (0,3))))=some (b4,b5):=h
 clear h;obtain⟨e6,e9,H⟩:=bT H;(try dsimp only at H);by_cases c4:e6=true
 ·subst c4;rw[if_pos rfl] at H;obtain⟨e7,f4,H⟩:=bT H;(try dsimp only at H);have f5:=aM H;clear H;go_enter Try.func69,Try.ntmps69
  go_upto_if 13 with (first|((with_reducible refine gc 65 rfl ?_);refine gC 65 (some 7) Try.func65 #[.slice a6 l0.length a7] ?_;(with_reducible refine(Azy.calls k _ _ l0 true _ ?_ ?_ e9.out).mono ?_);exact cX d6.out;exact d7.out;rintro e w' ⟨rfl,⟨nd,rfl⟩⟩;refine⟨_,rfl,?_⟩)|(go_at_call 65;(with_reducible refine(Azy.calls k _ _ l1 e7 _ ?_ ?_ f4.out).mono ?_);exact cX d8.out;exact d9.out;rintro e w' ⟨rfl,⟨nd,rfl⟩⟩))
  have H:=f5.out;clear f5;by_cases c7:e7=true
  ·subst c7;rw[if_pos rfl] at H;replace H:=bS H;obtain⟨e8,f6,H⟩:=H;replace H:(some (e8,0))=some (b4,b5):=H;have f7:=aM f6;clear f6;obtain⟨rfl,rfl⟩:=q2 H;go_wp2_with (first|((with_reducible refine gc 98 rfl ?_);refine gC 98 (some 16) Try.func98 #[.slice a6 l0.length a7,.slice a8 l1.length a9] ?_;(with_reducible refine(Dzj.calls k _ _ l0 _ _ l1 e8 _ ?_ ?_ ?_ ?_ f7.out).mono ?_);exact cX d6.out;exact d7.out;exact cX d8.out;exact d9.out;rintro e w' ⟨rfl,⟨nd,rfl⟩⟩;refine⟨_,rfl,?_⟩))
   go_ret2
   exact⟨sD,dR⟩
  ·obtain rfl:=bN c7;rw[if_neg nF] at H
   obtain⟨rfl,rfl⟩:=q2 H;go_wp2
   go_ret2
   exact⟨sD,dR⟩
 ·obtain rfl:=bN c4;rw[if_neg nF] at H
  obtain⟨rfl,rfl⟩:=q2 H;go_enter Try.func69,Try.ntmps69
  go_wp2_with (first|((with_reducible refine gc 65 rfl ?_);refine gC 65 (some 7) Try.func65 #[.slice a6 l0.length a7] ?_;(with_reducible refine(Azy.calls k _ _ l0 false _ ?_ ?_ e9.out).mono ?_);exact cX d6.out;exact d7.out;rintro e w' ⟨rfl,⟨nd,rfl⟩⟩;refine⟨_,rfl,?_⟩))
  go_ret2
  exact⟨sD,dR⟩


mutual
def Ezx.j0:Nat→List Int→List Int→Bool→Option (List Int × Int)
 | 0,_,_,_=>none
 | k+1,x0,x1,x17=>if x17=true then(some (([]:List Int),3)) else((Gzv.f x0 (wrap64 ((mx (x0.length:Int) (x1.length:Int))+1))).bind fun t347=>(Ezx.l0 k x1 t347 0 (t347.length:Int) 0))
def Ezx.l0:Nat→List Int→List Int→Int→Int→Int→Option (List Int × Int)
 | 0,_,_,_,_,_=>none
 | k+1,x1,x6,x7,x27,x28=>if x28 < x27 then(if 0≤x28 then(if x28 < (x6.length:Int) then(if x28 < (x1.length:Int) then(Ezx.l0 k x1 (x6.set (x28:Int).toNat (Int.tmod (wrap64 ((wrap64 ((rd x6 x28)+x7))+(rd x1 x28))) 1000000000)) (wrap64 (Int.tdiv (wrap64 ((wrap64 ((rd x6 x28)+x7))+(rd x1 x28))) 1000000000)) x27 (wrap64 (x28+1))) else(Ezx.l0 k x1 (x6.set (x28:Int).toNat (Int.tmod (wrap64 ((rd x6 x28)+x7)) 1000000000)) (wrap64 (Int.tdiv (wrap64 ((rd x6 x28)+x7)) 1000000000)) x27 (wrap64 (x28+1)))) else(none)) else(none)) else((Fzx.f k x6).bind fun bt354=>(some (bt354.1,bt354.2)))
end
def Ezx.f (k:Nat) (l0:List Int) (l1:List Int):Option (List Int × Int):=(Azy.f k l0).bind fun t345=>(if t345=true then((Azy.f k l1).bind fun t346=>(Ezx.j0 k l0 l1 (!t346))) else(Ezx.j0 k l0 l1 true))
theorem Ezx.mono_l:∀ k,(∀ a6 a7 a8,LeO (Ezx.j0 k a6 a7 a8) (Ezx.j0 (k+1) a6 a7 a8))∧(∀ a6 a7 a8 a9 b4,LeO (Ezx.l0 k a6 a7 a8 a9 b4) (Ezx.l0 (k+1) a6 a7 a8 a9 b4))
 | 0=>⟨fun _ _ _ r h=>by simp [Ezx.j0] at h,fun _ _ _ _ _ r h=>by simp [Ezx.l0] at h⟩
 | k+1=>by
  obtain⟨ih0,ih1⟩:=Ezx.mono_l k;have i0:=@Azy.mono;have i1:=@Fzx.mono;refine⟨?_,?_⟩
  ·intro a6 a7 a8;unfold Ezx.j0;exact mM
  ·intro a6 a7 a8 a9 b4;unfold Ezx.l0;exact mM
theorem Ezx.mono:∀ a6 a7 k,LeO (Ezx.f k a6 a7) (Ezx.f (k+1) a6 a7):=by
 intro a6 a7 k;obtain⟨ih0,ih1⟩:=Ezx.mono_l k;unfold Ezx.f;have i0:=@Azy.mono;have i1:=@Fzx.mono;exact mM
theorem Ezx.calls (k:Nat) (a6:Option Addr) (a7:Nat) (l0:List Int) (a8:Option Addr) (a9:Nat) (l1:List Int) (b4:List Int) (b5:Int) (w:World) (b6:cI w a6 l0) (b7:l0.length≤a7) (b8:cI w a8 l1) (b9:l1.length≤a9) (h:Ezx.f k l0 l1=some (b4,b5)) :
  Calls Try.prog 89 #[.slice a6 l0.length a7,.slice a8 l1.length a9] w fun e w'=>∃ v0_:Value,e=.returned (.tuple #[v0_,.int .i64 b5])∧rI w' w (fun _=>True) v0_ b4∧bw w w':=by
 have d6:=aM b6;have d7:=aM b7;clear b6 b7;have d8:=aM b8;have d9:=aM b9;clear b8 b9;have HB:=aM (Below.refl w.heap.size w);have H:((Azy.f k l0).bind fun e6=>(if e6=true then((Azy.f k l1).bind fun e7=>(Ezx.j0 k l0 l1 (!e7))) else(Ezx.j0 k l0 l1 true)))=some (b4,b5):=h
 clear h;have e8:=aM H;clear H;go_enter Try.func89,Try.ntmps89
 go_upto_region 1 with (fail)
 go_cut [17] (fun e9 wc=>∃ (kq:Nat) (f4:Bool),e9=.bool f4∧Aside0 (Ezx.j0 kq l0 l1 f4=some (b4,b5))∧Aside0 (kq≤k)∧Aside0 (bw w wc))
 case first =>
  have H:=e8.out;clear e8;obtain⟨e6,f5,H⟩:=bT H;(try dsimp only at H);by_cases c5:e6=true
  ·subst c5;rw[if_pos rfl] at H;obtain⟨e7,f6,H⟩:=bT H;(try dsimp only at H);have H':=aM H;clear H;go_wp2_with (first|((with_reducible refine gc 65 rfl ?_);refine gC 65 (some 11) Try.func65 #[.slice a6 l0.length a7] ?_;(with_reducible refine(Azy.calls k _ _ l0 true _ ?_ ?_ f5.out).mono ?_);exact cB d6;exact d7.out;rintro e w' ⟨rfl,⟨nd,rfl⟩⟩;refine⟨_,rfl,?_⟩)|(go_at_call 65;(with_reducible refine(Azy.calls k _ _ l1 e7 _ ?_ ?_ f6.out).mono ?_);exact cB d8;exact d9.out;rintro e w' ⟨rfl,⟨nd,rfl⟩⟩))
   go_meet
   case rel=>exact⟨_,(!e7),sD,H',⟨by first|omega|exact Nat.le_refl _⟩,⟨pB⟩⟩
  ·obtain rfl:=bN c5;rw[if_neg nF] at H
   have H':=aM H;clear H;go_wp2_with (first|((with_reducible refine gc 65 rfl ?_);refine gC 65 (some 11) Try.func65 #[.slice a6 l0.length a7] ?_;(with_reducible refine(Azy.calls k _ _ l0 false _ ?_ ?_ f5.out).mono ?_);exact cB d6;exact d7.out;rintro e w' ⟨rfl,⟨nd,rfl⟩⟩;refine⟨_,rfl,?_⟩))
   go_meet
   case rel=>exact⟨_,(true),sD,H',⟨by first|omega|exact Nat.le_refl _⟩,⟨pB⟩⟩
 case rest =>
  clear e8;try clear a9
  obtain⟨kq,f4,rfl,HA,f7,HB⟩:=hcut;cases kq with
  | zero=>exact absurd HA.out (by simp [Ezx.j0])
  | succ f8 =>
   have H:=HA.out;clear HA;simp only[Ezx.j0] at H;by_cases c7:f4=true
   ·subst c7;rw[if_pos rfl] at H;obtain⟨rfl,rfl⟩:=q2 H;go_wp2
    go_ret2
    exact⟨_,eW,nK,pB⟩
   ·obtain rfl:=bN c7;rw[if_neg nF] at H
    obtain⟨f9,g4⟩:∃ j_:Int,(mx (l0.length:Int) (l1.length:Int))=j_:=⟨_,rfl⟩;replace H:((Gzv.f l0 (wrap64 ((f9)+1))).bind fun g5=>(Ezx.l0 f8 l1 g5 0 (g5.length:Int) 0))=some (b4,b5):=by first|(rw[g4] at H;exact H)|(simp only[g4] at H ⊢;exact H)
    have g6:(if(l0.length:Int) < (l1.length:Int) then(l1.length:Int) else(l0.length:Int))=f9:=g4
    have g7:(if l0.length < l1.length then(l1.length:Int) else(l0.length:Int))=f9:=by rw[← g6];simp only[Int.ofNat_lt]
    obtain⟨g5,g8,H⟩:=bT H;(try dsimp only at H);have H':=aM H;clear H;go_wp2_with (first|((with_reducible refine gate_callee (f:=93) rfl ?_);refine goesL_ (some 25) rfl rfl Try.func93 (by kernel_rfl) rfl #[.slice a6 l0.length a7,.int .i64 (wrap64 ((f9)+1))] rfl (by(try simp only[List.map_toArray,List.map_cons,List.map_nil]);first|done|(simp only[g4];rfl)|rfl|(simp only[List.length_drop,List.length_take];rfl)) ?_;(with_reducible refine(Gzv.calls _ _ l0 (wrap64 ((f9)+1)) g5 _ ?_ ?_ g8.out).mono ?_);exact cB d6;exact d7.out;rintro e g9 ⟨j3,rfl,j4,hb⟩;refine⟨_,rfl,?_⟩;have j5:=rL j4;replace HB:=bB hb;clear hb j4;obtain⟨j6,j7,rfl⟩:=Kd.R_slice j5.out))
    go_loopg [7,28] f8 (fun kq j8 j9 w'=>∃ (l5:List Int) (l6:Int) (l7:Int),j8=.int .i64 l6∧j9=.int .i64 l7∧Aside0 (Ezx.l0 kq l1 l5 l6 (g5.length:Int) l7=some (b4,b5))∧Aside0 (kq≤f8)∧Aside0 (rI w' w (fun _=>True) (.slice j6 g5.length j7) l5)∧Aside0 (bw w w'))
    case atStart=>exact⟨(g5),(0),(0),sD,sD,H',⟨Nat.le_refl _⟩,⟨rX j5.out⟩,⟨pB⟩⟩
    case round =>
     clear H';try clear a9
     obtain⟨l5,l6,l7,rfl,rfl,HA,l8,l9,HB⟩:=hrel;have m0:=(Kd.R_reads' l9.out).1;rw[m0] at l9;(try simp only[m0])
     cases gk with
     | zero=>exact absurd HA.out (by simp [Ezx.l0])
     | succ k2 =>
      have H:=HA.out;clear HA;simp only[Ezx.l0] at H;by_cases m4:l7 < (g5.length:Int)
      ·rw[if_pos m4] at H;have m5:=dE m4;have m6:=m5;(try simp only[m0] at m6)
       clear m4;obtain⟨m7,H⟩:=iN H;obtain⟨m8,H⟩:=iO H;have m9:decide (l7 < (l5.length:Int))=true:=dE m8;have n0:=m9;(try simp only[m0] at n0)
       clear m8;by_cases n7:l7 < (l1.length:Int)
       ·rw[if_pos n7] at H;have n8:=dE n7;have n9:=n8;(try simp only[m0] at n9)
        clear n7;obtain⟨o0,o8⟩:∃ y_:List Int,y_=(l5.set (l7:Int).toNat (Int.tmod (wrap64 ((wrap64 ((rd l5 l7)+l6))+(rd l1 l7))) 1000000000)):=⟨_,rfl⟩;replace H:(Ezx.l0 k2 l1 o0 (wrap64 (Int.tdiv (wrap64 ((wrap64 ((rd l5 l7)+l6))+(rd l1 l7))) 1000000000)) (g5.length:Int) (wrap64 (l7+1)))=some (b4,b5):=yE o8 H
        have o9:=aM o8;clear o8;have H':=aM H;clear H;obtain⟨p0,p4,p7,p9,r5⟩:=aI (Kd.R_reads' l9.out).2.2 l7;cases p4;obtain⟨r6,r7,r8,r9,t4⟩:=aI d8.out l7;cases r7
        replace r8:=hB HB r8;have t5:0≤(l7:Int):=oE aS
        have t6:(l7:Int) < ((l5.length:Int):Int):=oE aS
        obtain⟨t7,t8,t9,z3,z4,z5,z6⟩:=Kd.R_form l9.out (by omega)
        (first|cases t9|(injection t9 with ea_ en_ ec_;(first|subst ea_|(injection ea_ with ea_;subst ea_));subst ec_;clear en_))
        have z7:=aM z3;have z8:=aM z6;clear z3 z4 z6;(first|simp only[add_plain] at p7|skip)
        obtain⟨z9,B0⟩:=Kd.R_celln 0 l9.out (l7:Int) t5 t6;replace t5:=eq_true t5;replace t6:=eq_true t6;have B5:=Kd.R_putg l9.out (l7:Int) (Int.tmod (wrap64 ((wrap64 ((rd l5 l7)+l6))+(rd l1 l7))) 1000000000);go_wp2_with (first|((with_reducible refine gate_store (t:=3) (p:=53) rfl ?_);refine store_event (t:=3) (p:=53) (v:=?vo_w18) (w1:=(wr.setCell ⟨t7,(l7:Int).toNat,none⟩ (.int .i64 (Int.tmod (wrap64 ((wrap64 ((rd l5 l7)+l6))+(rd l1 l7))) 1000000000)))) ?hg ?ho ?hn ?hr ?_;(case ho=>rfl);(case hg=>rfl);(case hn=>rfl);(case hr=>first|(go_simp;done)|(go_simp;rfl));intro B9 hw;have hg:wr.grownBy B9 (some t7):=(by rw[hw];exact B5.2);have hp_:rI B9 w (fun _=>True) (.slice (some ⟨t7,0,none⟩) l5.length j7) o0:=(by rw[hw,o9.out];exact B5.1);clear B5;replace l9:=aM (hp_);replace HB:=aM ((by rw[hw];exact below_set (HB.out) z7.out:bw w B9));clear hg hw hp_))
        (try simp only[← m0])
        go_roundg k2
        case measure=>have:=f7.out;have:=l8.out;omega
        case rel=>exact⟨(o0),(wrap64 (Int.tdiv (wrap64 ((wrap64 ((rd l5 l7)+l6))+(rd l1 l7))) 1000000000)),(wrap64 (l7+1)),sD,sD,H',⟨by have:=f7.out;have:=l8.out;omega⟩,⟨by(try simp only[m0]);(with_reducible repeat(first|apply Kd.R_alloc|apply Kd.R_drewN|apply Kd.R_drew));exact l9.out⟩,⟨pB⟩⟩
       ·rw[if_neg n7] at H;have n8:decide (l7 < (l1.length:Int))=false:=decide_eq_false n7;have n9:=n8;(try simp only[m0] at n9)
        clear n7;obtain⟨C0,C1⟩:∃ y_:List Int,y_=(l5.set (l7:Int).toNat (Int.tmod (wrap64 ((rd l5 l7)+l6)) 1000000000)):=⟨_,rfl⟩;replace H:(Ezx.l0 k2 l1 C0 (wrap64 (Int.tdiv (wrap64 ((rd l5 l7)+l6)) 1000000000)) (g5.length:Int) (wrap64 (l7+1)))=some (b4,b5):=yE C1 H
        have C2:=aM C1;clear C1;have H':=aM H;clear H;obtain⟨p0,p4,p7,p9,r5⟩:=aI (Kd.R_reads' l9.out).2.2 l7;cases p4;have C3:0≤(l7:Int):=oE aS
        have C4:(l7:Int) < ((l5.length:Int):Int):=oE aS
        obtain⟨C6,C7,C8,C9,D2,D3,D4⟩:=Kd.R_form l9.out (by omega)
        (first|cases C8|(injection C8 with ea_ en_ ec_;(first|subst ea_|(injection ea_ with ea_;subst ea_));subst ec_;clear en_))
        have D5:=aM C9;have D6:=aM D4;clear C9 D2 D4;(first|simp only[add_plain] at p7|skip)
        obtain⟨D7,D8⟩:=Kd.R_celln 0 l9.out (l7:Int) C3 C4;replace C3:=eq_true C3;replace C4:=eq_true C4;have D9:=Kd.R_putg l9.out (l7:Int) (Int.tmod (wrap64 ((rd l5 l7)+l6)) 1000000000);go_wp2_with (first|((with_reducible refine gate_store (t:=3) (p:=53) rfl ?_);refine store_event (t:=3) (p:=53) (v:=?vo_w21) (w1:=(wr.setCell ⟨C6,(l7:Int).toNat,none⟩ (.int .i64 (Int.tmod (wrap64 ((rd l5 l7)+l6)) 1000000000)))) ?hg ?ho ?hn ?hr ?_;(case ho=>rfl);(case hg=>rfl);(case hn=>rfl);(case hr=>first|(go_simp;done)|(go_simp;rfl));intro E0 hw;have hg:wr.grownBy E0 (some C6):=(by rw[hw];exact D9.2);have hp_:rI E0 w (fun _=>True) (.slice (some ⟨C6,0,none⟩) l5.length j7) C0:=(by rw[hw,C2.out];exact D9.1);clear D9;replace l9:=aM (hp_);replace HB:=aM ((by rw[hw];exact below_set (HB.out) D5.out:bw w E0));clear hg hw hp_))
        (try simp only[← m0])
        go_roundg k2
        case measure=>have:=f7.out;have:=l8.out;omega
        case rel=>exact⟨(C0),(wrap64 (Int.tdiv (wrap64 ((rd l5 l7)+l6)) 1000000000)),(wrap64 (l7+1)),sD,sD,H',⟨by have:=f7.out;have:=l8.out;omega⟩,⟨by(try simp only[m0]);(with_reducible repeat(first|apply Kd.R_alloc|apply Kd.R_drewN|apply Kd.R_drew));exact l9.out⟩,⟨pB⟩⟩
      ·rw[if_neg m4] at H;have m5:decide (l7 < (g5.length:Int))=false:=decide_eq_false m4;have m6:=m5;(try simp only[m0] at m6)
       clear m4;replace H:=bS H;obtain⟨⟨E1,E2⟩,E3,H⟩:=H;replace H:(some (E1,E2))=some (b4,b5):=H;have E4:=aM E3;clear E3;obtain⟨rfl,rfl⟩:=q2 H;go_wp2_with (first|((with_reducible refine gc 110 rfl ?_);refine gC 110 (some 56) Try.func110 #[.slice j6 l5.length j7] ?_;(with_reducible refine(Fzx.calls k2 (fun k_=>some k_=(.slice j6 l5.length j7:Value).ownBlock) (.slice j6 l5.length j7) l5 E1 E2 w _ ?_ ?_ E4.out).mono ?_);exact pB;exact Kd.R_tight rfl l9.out;rintro e E5 ⟨E6,rfl,j4,hb,hkp⟩;refine⟨_,rfl,?_⟩;have E7:=aM (Kd.R_mono (ok':=fun k_=>True) j4 (fun k_ hk_=>trivial));replace HB:=aM (hb);clear l9 hb hkp j4))
       go_ret2
       exact⟨_,by first|rfl|(simp [errW_none,errW_some] <;> rfl)|(simp only[← g4];first|rfl|(simp [errW_none,errW_some] <;> rfl))|(simp [*,errW_none,errW_some] <;> rfl),rX E7.out,pB⟩


mutual
def Ezj.j0:Nat→List Int→List Int→Bool→Option (List Int × Int)
 | 0,_,_,_=>none
 | k+1,x0,x1,x17=>if x17=true then(some (([]:List Int),3)) else((Dzj.f k x0 x1).bind fun t360=>(if t360 < 0 then(some (([]:List Int),1)) else((Gzv.f x0 (x0.length:Int)).bind fun t361=>(Ezj.l0 k x1 t361 0 (t361.length:Int) 0))))
def Ezj.l0:Nat→List Int→List Int→Int→Int→Int→Option (List Int × Int)
 | 0,_,_,_,_,_=>none
 | k+1,x1,x6,x7,x27,x28=>if x28 < x27 then(if 0≤x28 then(if x28 < (x6.length:Int) then(if x28 < (x1.length:Int) then(if(wrap64 ((wrap64 ((rd x6 x28) - x7)) - (rd x1 x28))) < 0 then(Ezj.l0 k x1 (x6.set (x28:Int).toNat (wrap64 ((wrap64 ((wrap64 ((rd x6 x28) - x7)) - (rd x1 x28)))+1000000000))) 1 x27 (wrap64 (x28+1))) else(Ezj.l0 k x1 (x6.set (x28:Int).toNat (wrap64 ((wrap64 ((rd x6 x28) - x7)) - (rd x1 x28)))) 0 x27 (wrap64 (x28+1)))) else(if(wrap64 ((rd x6 x28) - x7)) < 0 then(Ezj.l0 k x1 (x6.set (x28:Int).toNat (wrap64 ((wrap64 ((rd x6 x28) - x7))+1000000000))) 1 x27 (wrap64 (x28+1))) else(Ezj.l0 k x1 (x6.set (x28:Int).toNat (wrap64 ((rd x6 x28) - x7))) 0 x27 (wrap64 (x28+1))))) else(none)) else(none)) else((Bzp.f k x6).bind fun t364=>(some (t364,0)))
end
def Ezj.f (k:Nat) (l0:List Int) (l1:List Int):Option (List Int × Int):=(Azy.f k l0).bind fun t358=>(if t358=true then((Azy.f k l1).bind fun t359=>(Ezj.j0 k l0 l1 (!t359))) else(Ezj.j0 k l0 l1 true))
theorem Ezj.mono_l:∀ k,(∀ a6 a7 a8,LeO (Ezj.j0 k a6 a7 a8) (Ezj.j0 (k+1) a6 a7 a8))∧(∀ a6 a7 a8 a9 b4,LeO (Ezj.l0 k a6 a7 a8 a9 b4) (Ezj.l0 (k+1) a6 a7 a8 a9 b4))
 | 0=>⟨fun _ _ _ r h=>by simp [Ezj.j0] at h,fun _ _ _ _ _ r h=>by simp [Ezj.l0] at h⟩
 | k+1=>by
  obtain⟨ih0,ih1⟩:=Ezj.mono_l k;have i0:=@Azy.mono;have i1:=@Dzj.mono;have i2:=@Bzp.mono;refine⟨?_,?_⟩
  ·intro a6 a7 a8;unfold Ezj.j0;exact mM
  ·intro a6 a7 a8 a9 b4;unfold Ezj.l0;exact mM
theorem Ezj.mono:∀ a6 a7 k,LeO (Ezj.f k a6 a7) (Ezj.f (k+1) a6 a7):=by
 intro a6 a7 k;obtain⟨ih0,ih1⟩:=Ezj.mono_l k;unfold Ezj.f;have i0:=@Azy.mono;have i1:=@Dzj.mono;have i2:=@Bzp.mono;exact mM
theorem Ezj.calls (k:Nat) (a6:Option Addr) (a7:Nat) (l0:List Int) (a8:Option Addr) (a9:Nat) (l1:List Int) (b4:List Int) (b5:Int) (w:World) (b6:cI w a6 l0) (b7:l0.length≤a7) (b8:cI w a8 l1) (b9:l1.length≤a9) (h:Ezj.f k l0 l1=some (b4,b5)) :
  Calls Try.prog 90 #[.slice a6 l0.length a7,.slice a8 l1.length a9] w fun e w'=>∃ v0_:Value,e=.returned (.tuple #[v0_,.int .i64 b5])∧rI w' w (fun _=>True) v0_ b4∧bw w w':=by
 have d6:=aM b6;have d7:=aM b7;clear b6 b7;have d8:=aM b8;have d9:=aM b9;clear b8 b9;have HB:=aM (Below.refl w.heap.size w);have H:((Azy.f k l0).bind fun e6=>(if e6=true then((Azy.f k l1).bind fun e7=>(Ezj.j0 k l0 l1 (!e7))) else(Ezj.j0 k l0 l1 true)))=some (b4,b5):=h
 clear h;have e8:=aM H;clear H;go_enter Try.func90,Try.ntmps90
 go_upto_region 1 with (fail)
 go_cut [17] (fun e9 wc=>∃ (kq:Nat) (f4:Bool),e9=.bool f4∧Aside0 (Ezj.j0 kq l0 l1 f4=some (b4,b5))∧Aside0 (kq≤k)∧Aside0 (bw w wc))
 case first =>
  have H:=e8.out;clear e8;obtain⟨e6,f5,H⟩:=bT H;(try dsimp only at H);by_cases c5:e6=true
  ·subst c5;rw[if_pos rfl] at H;obtain⟨e7,f6,H⟩:=bT H;(try dsimp only at H);have H':=aM H;clear H;go_wp2_with (first|((with_reducible refine gc 65 rfl ?_);refine gC 65 (some 11) Try.func65 #[.slice a6 l0.length a7] ?_;(with_reducible refine(Azy.calls k _ _ l0 true _ ?_ ?_ f5.out).mono ?_);exact cB d6;exact d7.out;rintro e w' ⟨rfl,⟨nd,rfl⟩⟩;refine⟨_,rfl,?_⟩)|(go_at_call 65;(with_reducible refine(Azy.calls k _ _ l1 e7 _ ?_ ?_ f6.out).mono ?_);exact cB d8;exact d9.out;rintro e w' ⟨rfl,⟨nd,rfl⟩⟩))
   go_meet
   case rel=>exact⟨_,(!e7),sD,H',⟨by first|omega|exact Nat.le_refl _⟩,⟨pB⟩⟩
  ·obtain rfl:=bN c5;rw[if_neg nF] at H
   have H':=aM H;clear H;go_wp2_with (first|((with_reducible refine gc 65 rfl ?_);refine gC 65 (some 11) Try.func65 #[.slice a6 l0.length a7] ?_;(with_reducible refine(Azy.calls k _ _ l0 false _ ?_ ?_ f5.out).mono ?_);exact cB d6;exact d7.out;rintro e w' ⟨rfl,⟨nd,rfl⟩⟩;refine⟨_,rfl,?_⟩))
   go_meet
   case rel=>exact⟨_,(true),sD,H',⟨by first|omega|exact Nat.le_refl _⟩,⟨pB⟩⟩
 case rest =>
  clear e8;try clear a9
  obtain⟨kq,f4,rfl,HA,f7,HB⟩:=hcut;cases kq with
  | zero=>exact absurd HA.out (by simp [Ezj.j0])
  | succ f8 =>
   have H:=HA.out;clear HA;simp only[Ezj.j0] at H;by_cases c7:f4=true
   ·subst c7;rw[if_pos rfl] at H;obtain⟨rfl,rfl⟩:=q2 H;go_wp2
    go_ret2
    exact⟨_,eW,nK,pB⟩
   ·obtain rfl:=bN c7;rw[if_neg nF] at H
    obtain⟨f9,g4,H⟩:=bT H;(try dsimp only at H);have g5:=aM H;clear H;go_upto_if 21 with (first|((with_reducible refine gc 98 rfl ?_);refine gC 98 (some 20) Try.func98 #[.slice a6 l0.length a7,.slice a8 l1.length a9] ?_;(with_reducible refine(Dzj.calls f8 _ _ l0 _ _ l1 f9 _ ?_ ?_ ?_ ?_ g4.out).mono ?_);exact cB d6;exact d7.out;exact cB d8;exact d9.out;rintro e w' ⟨rfl,⟨nd,rfl⟩⟩;refine⟨_,rfl,?_⟩))
    have H:=g5.out;clear g5;replace H:=iD H;rcases H with⟨g6,H⟩|⟨g6,H⟩
    ·(first|rw[g6]|(simp only[i64_w,i32_w];rw[g6])|skip)
     obtain⟨rfl,rfl⟩:=q2 H;go_wp2
     go_ret2
     exact⟨_,eW,nK,pB⟩
    ·(first|rw[g6]|(simp only[i64_w,i32_w];rw[g6])|skip)
     obtain⟨g7,g8,H⟩:=bT H;(try dsimp only at H);have H':=aM H;clear H;go_wp2_with (first|((with_reducible refine gc 93 rfl ?_);refine gC 93 (some 25) Try.func93 #[.slice a6 l0.length a7,.int .i64 (l0.length:Int)] ?_;(with_reducible refine(Gzv.calls _ _ l0 (l0.length:Int) g7 _ ?_ ?_ g8.out).mono ?_);exact cB d6;exact d7.out;rintro e g9 ⟨j3,rfl,j4,hb⟩;refine⟨_,rfl,?_⟩;have j5:=rL j4;replace HB:=bB hb;clear hb j4;obtain⟨j6,j7,rfl⟩:=Kd.R_slice j5.out))
     go_loopg [7,28] f8 (fun kq j8 j9 w'=>∃ (l5:List Int) (l6:Int) (l7:Int),j8=.int .i64 l6∧j9=.int .i64 l7∧Aside0 (Ezj.l0 kq l1 l5 l6 (g7.length:Int) l7=some (b4,b5))∧Aside0 (kq≤f8)∧Aside0 (rI w' w (fun _=>True) (.slice j6 g7.length j7) l5)∧Aside0 (bw w w'))
     case atStart=>exact⟨(g7),(0),(0),sD,sD,H',⟨Nat.le_refl _⟩,⟨rX j5.out⟩,⟨pB⟩⟩
     case round =>
      clear H';try clear a9
      obtain⟨l5,l6,l7,rfl,rfl,HA,l8,l9,HB⟩:=hrel;have m0:=(Kd.R_reads' l9.out).1;rw[m0] at l9;(try simp only[m0])
      cases gk with
      | zero=>exact absurd HA.out (by simp [Ezj.l0])
      | succ k2 =>
       have H:=HA.out;clear HA;simp only[Ezj.l0] at H;by_cases m4:l7 < (g7.length:Int)
       ·rw[if_pos m4] at H;have m5:=dE m4;have m6:=m5;(try simp only[m0] at m6)
        clear m4;obtain⟨m7,H⟩:=iN H;obtain⟨m8,H⟩:=iO H;have m9:decide (l7 < (l5.length:Int))=true:=dE m8;have n0:=m9;(try simp only[m0] at n0)
        clear m8;by_cases n7:l7 < (l1.length:Int)
        ·rw[if_pos n7] at H;have n8:=dE n7;have n9:=n8;(try simp only[m0] at n9)
         clear n7;by_cases o0:(wrap64 ((wrap64 ((rd l5 l7) - l6)) - (rd l1 l7))) < 0
         ·rw[if_pos o0] at H;have o8:decide ((wrap64 ((wrap64 ((rd l5 l7) - l6)) - (rd l1 l7))) < 0)=true:=dE o0;have o9:decide ((IntKind.i64.wrap ((IntKind.i64.wrap ((rd l5 l7) - l6)) - (rd l1 l7))) < 0)=true:=by have h_:=o8;first|exact h_|(simp only[i64_w];exact h_)
          clear o0;obtain⟨p0,p4⟩:∃ y_:List Int,y_=(l5.set (l7:Int).toNat (wrap64 ((wrap64 ((wrap64 ((rd l5 l7) - l6)) - (rd l1 l7)))+1000000000))):=⟨_,rfl⟩;replace H:(Ezj.l0 k2 l1 p0 1 (g7.length:Int) (wrap64 (l7+1)))=some (b4,b5):=yE p4 H
          have p7:=aM p4;clear p4;have H':=aM H;clear H;obtain⟨p9,r5,r6,r7,r8⟩:=aI (Kd.R_reads' l9.out).2.2 l7;cases r5;obtain⟨r9,t4,t5,t6,t7⟩:=aI d8.out l7;cases t4
          replace t5:=hB HB t5;have t8:0≤(l7:Int):=oE aS
          have t9:(l7:Int) < ((l5.length:Int):Int):=oE aS
          obtain⟨z3,z4,z5,z6,z7,z8,z9⟩:=Kd.R_form l9.out (by omega)
          (first|cases z5|(injection z5 with ea_ en_ ec_;(first|subst ea_|(injection ea_ with ea_;subst ea_));subst ec_;clear en_))
          have B0:=aM z6;have B5:=aM z9;clear z6 z7 z9;(first|simp only[add_plain] at r6|skip)
          obtain⟨B9,C0⟩:=Kd.R_celln 0 l9.out (l7:Int) t8 t9;replace t8:=eq_true t8;replace t9:=eq_true t9;have C1:=Kd.R_putg l9.out (l7:Int) (wrap64 ((wrap64 ((wrap64 ((rd l5 l7) - l6)) - (rd l1 l7)))+1000000000));go_wp2_with (first|((with_reducible refine gate_store (t:=3) (p:=54) rfl ?_);refine store_event (t:=3) (p:=54) (v:=?vo_w21) (w1:=(wr.setCell ⟨z3,(l7:Int).toNat,none⟩ (.int .i64 (wrap64 ((wrap64 ((wrap64 ((rd l5 l7) - l6)) - (rd l1 l7)))+1000000000))))) ?hg ?ho ?hn ?hr ?_;(case ho=>rfl);(case hg=>rfl);(case hn=>rfl);(case hr=>first|(go_simp;done)|(go_simp;rfl));intro C2 hw;have hg:wr.grownBy C2 (some z3):=(by rw[hw];exact C1.2);have hp_:rI C2 w (fun _=>True) (.slice (some ⟨z3,0,none⟩) l5.length j7) p0:=(by rw[hw,p7.out];exact C1.1);clear C1;replace l9:=aM (hp_);replace HB:=aM ((by rw[hw];exact below_set (HB.out) B0.out:bw w C2));clear hg hw hp_))
          (try simp only[← m0])
          go_roundg k2
          case measure=>have:=f7.out;have:=l8.out;omega
          case rel=>exact⟨(p0),(1),(wrap64 (l7+1)),sD,sD,H',⟨by have:=f7.out;have:=l8.out;omega⟩,⟨by(try simp only[m0]);(with_reducible repeat(first|apply Kd.R_alloc|apply Kd.R_drewN|apply Kd.R_drew));exact l9.out⟩,⟨pB⟩⟩
         ·rw[if_neg o0] at H;have o8:decide ((wrap64 ((wrap64 ((rd l5 l7) - l6)) - (rd l1 l7))) < 0)=false:=decide_eq_false o0;have o9:decide ((IntKind.i64.wrap ((IntKind.i64.wrap ((rd l5 l7) - l6)) - (rd l1 l7))) < 0)=false:=by have h_:=o8;first|exact h_|(simp only[i64_w];exact h_)
          clear o0;obtain⟨C3,C4⟩:∃ y_:List Int,y_=(l5.set (l7:Int).toNat (wrap64 ((wrap64 ((rd l5 l7) - l6)) - (rd l1 l7)))):=⟨_,rfl⟩;replace H:(Ezj.l0 k2 l1 C3 0 (g7.length:Int) (wrap64 (l7+1)))=some (b4,b5):=yE C4 H
          have C6:=aM C4;clear C4;have H':=aM H;clear H;obtain⟨p9,r5,r6,r7,r8⟩:=aI (Kd.R_reads' l9.out).2.2 l7;cases r5;obtain⟨r9,t4,t5,t6,t7⟩:=aI d8.out l7;cases t4
          replace t5:=hB HB t5;have C7:0≤(l7:Int):=oE aS
          have C8:(l7:Int) < ((l5.length:Int):Int):=oE aS
          obtain⟨C9,D2,D3,D4,D5,D6,D7⟩:=Kd.R_form l9.out (by omega)
          (first|cases D3|(injection D3 with ea_ en_ ec_;(first|subst ea_|(injection ea_ with ea_;subst ea_));subst ec_;clear en_))
          have D8:=aM D4;have D9:=aM D7;clear D4 D5 D7;(first|simp only[add_plain] at r6|skip)
          obtain⟨E0,E1⟩:=Kd.R_celln 0 l9.out (l7:Int) C7 C8;replace C7:=eq_true C7;replace C8:=eq_true C8;have E2:=Kd.R_putg l9.out (l7:Int) (wrap64 ((wrap64 ((rd l5 l7) - l6)) - (rd l1 l7)));go_wp2_with (first|((with_reducible refine gate_store (t:=3) (p:=54) rfl ?_);refine store_event (t:=3) (p:=54) (v:=?vo_w24) (w1:=(wr.setCell ⟨C9,(l7:Int).toNat,none⟩ (.int .i64 (wrap64 ((wrap64 ((rd l5 l7) - l6)) - (rd l1 l7)))))) ?hg ?ho ?hn ?hr ?_;(case ho=>rfl);(case hg=>rfl);(case hn=>rfl);(case hr=>first|(go_simp;done)|(go_simp;rfl));intro E3 hw;have hg:wr.grownBy E3 (some C9):=(by rw[hw];exact E2.2);have hp_:rI E3 w (fun _=>True) (.slice (some ⟨C9,0,none⟩) l5.length j7) C3:=(by rw[hw,C6.out];exact E2.1);clear E2;replace l9:=aM (hp_);replace HB:=aM ((by rw[hw];exact below_set (HB.out) D8.out:bw w E3));clear hg hw hp_))
          (try simp only[← m0])
          go_roundg k2
          case measure=>have:=f7.out;have:=l8.out;omega
          case rel=>exact⟨(C3),(0),(wrap64 (l7+1)),sD,sD,H',⟨by have:=f7.out;have:=l8.out;omega⟩,⟨by(try simp only[m0]);(with_reducible repeat(first|apply Kd.R_alloc|apply Kd.R_drewN|apply Kd.R_drew));exact l9.out⟩,⟨pB⟩⟩
        ·rw[if_neg n7] at H;have n8:decide (l7 < (l1.length:Int))=false:=decide_eq_false n7;have n9:=n8;(try simp only[m0] at n9)
         clear n7;by_cases E4:(wrap64 ((rd l5 l7) - l6)) < 0
         ·rw[if_pos E4] at H;have E5:decide ((wrap64 ((rd l5 l7) - l6)) < 0)=true:=dE E4;have E6:decide ((IntKind.i64.wrap ((rd l5 l7) - l6)) < 0)=true:=by have h_:=E5;first|exact h_|(simp only[i64_w];exact h_)
          clear E4;obtain⟨E7,E8⟩:∃ y_:List Int,y_=(l5.set (l7:Int).toNat (wrap64 ((wrap64 ((rd l5 l7) - l6))+1000000000))):=⟨_,rfl⟩;replace H:(Ezj.l0 k2 l1 E7 1 (g7.length:Int) (wrap64 (l7+1)))=some (b4,b5):=yE E8 H
          have E9:=aM E8;clear E8;have H':=aM H;clear H;obtain⟨p9,r5,r6,r7,r8⟩:=aI (Kd.R_reads' l9.out).2.2 l7;cases r5;have F0:0≤(l7:Int):=oE aS
          have F2:(l7:Int) < ((l5.length:Int):Int):=oE aS
          obtain⟨F3,F4,F5,F6,F7,F8,F9⟩:=Kd.R_form l9.out (by omega)
          (first|cases F5|(injection F5 with ea_ en_ ec_;(first|subst ea_|(injection ea_ with ea_;subst ea_));subst ec_;clear en_))
          have G5:=aM F6;have G9:=aM F9;clear F6 F7 F9;(first|simp only[add_plain] at r6|skip)
          obtain⟨H5,H6⟩:=Kd.R_celln 0 l9.out (l7:Int) F0 F2;replace F0:=eq_true F0;replace F2:=eq_true F2;have H7:=Kd.R_putg l9.out (l7:Int) (wrap64 ((wrap64 ((rd l5 l7) - l6))+1000000000));go_wp2_with (first|((with_reducible refine gate_store (t:=3) (p:=54) rfl ?_);refine store_event (t:=3) (p:=54) (v:=?vo_w28) (w1:=(wr.setCell ⟨F3,(l7:Int).toNat,none⟩ (.int .i64 (wrap64 ((wrap64 ((rd l5 l7) - l6))+1000000000))))) ?hg ?ho ?hn ?hr ?_;(case ho=>rfl);(case hg=>rfl);(case hn=>rfl);(case hr=>first|(go_simp;done)|(go_simp;rfl));intro H8 hw;have hg:wr.grownBy H8 (some F3):=(by rw[hw];exact H7.2);have hp_:rI H8 w (fun _=>True) (.slice (some ⟨F3,0,none⟩) l5.length j7) E7:=(by rw[hw,E9.out];exact H7.1);clear H7;replace l9:=aM (hp_);replace HB:=aM ((by rw[hw];exact below_set (HB.out) G5.out:bw w H8));clear hg hw hp_))
          (try simp only[← m0])
          go_roundg k2
          case measure=>have:=f7.out;have:=l8.out;omega
          case rel=>exact⟨(E7),(1),(wrap64 (l7+1)),sD,sD,H',⟨by have:=f7.out;have:=l8.out;omega⟩,⟨by(try simp only[m0]);(with_reducible repeat(first|apply Kd.R_alloc|apply Kd.R_drewN|apply Kd.R_drew));exact l9.out⟩,⟨pB⟩⟩
         ·rw[if_neg E4] at H;have E5:decide ((wrap64 ((rd l5 l7) - l6)) < 0)=false:=decide_eq_false E4;have E6:decide ((IntKind.i64.wrap ((rd l5 l7) - l6)) < 0)=false:=by have h_:=E5;first|exact h_|(simp only[i64_w];exact h_)
          clear E4;obtain⟨H9,I0⟩:∃ y_:List Int,y_=(l5.set (l7:Int).toNat (wrap64 ((rd l5 l7) - l6))):=⟨_,rfl⟩;replace H:(Ezj.l0 k2 l1 H9 0 (g7.length:Int) (wrap64 (l7+1)))=some (b4,b5):=yE I0 H
          have I3:=aM I0;clear I0;have H':=aM H;clear H;obtain⟨p9,r5,r6,r7,r8⟩:=aI (Kd.R_reads' l9.out).2.2 l7;cases r5;have I4:0≤(l7:Int):=oE aS
          have I5:(l7:Int) < ((l5.length:Int):Int):=oE aS
          obtain⟨I6,I7,I8,I9,J0,J1,J2⟩:=Kd.R_form l9.out (by omega)
          (first|cases I8|(injection I8 with ea_ en_ ec_;(first|subst ea_|(injection ea_ with ea_;subst ea_));subst ec_;clear en_))
          have J3:=aM I9;have J4:=aM J2;clear I9 J0 J2;(first|simp only[add_plain] at r6|skip)
          obtain⟨J5,J6⟩:=Kd.R_celln 0 l9.out (l7:Int) I4 I5;replace I4:=eq_true I4;replace I5:=eq_true I5;have J7:=Kd.R_putg l9.out (l7:Int) (wrap64 ((rd l5 l7) - l6));go_wp2_with (first|((with_reducible refine gate_store (t:=3) (p:=54) rfl ?_);refine store_event (t:=3) (p:=54) (v:=?vo_w31) (w1:=(wr.setCell ⟨I6,(l7:Int).toNat,none⟩ (.int .i64 (wrap64 ((rd l5 l7) - l6))))) ?hg ?ho ?hn ?hr ?_;(case ho=>rfl);(case hg=>rfl);(case hn=>rfl);(case hr=>first|(go_simp;done)|(go_simp;rfl));intro J8 hw;have hg:wr.grownBy J8 (some I6):=(by rw[hw];exact J7.2);have hp_:rI J8 w (fun _=>True) (.slice (some ⟨I6,0,none⟩) l5.length j7) H9:=(by rw[hw,I3.out];exact J7.1);clear J7;replace l9:=aM (hp_);replace HB:=aM ((by rw[hw];exact below_set (HB.out) J3.out:bw w J8));clear hg hw hp_))
          (try simp only[← m0])
          go_roundg k2
          case measure=>have:=f7.out;have:=l8.out;omega
          case rel=>exact⟨(H9),(0),(wrap64 (l7+1)),sD,sD,H',⟨by have:=f7.out;have:=l8.out;omega⟩,⟨by(try simp only[m0]);(with_reducible repeat(first|apply Kd.R_alloc|apply Kd.R_drewN|apply Kd.R_drew));exact l9.out⟩,⟨pB⟩⟩
       ·rw[if_neg m4] at H;have m5:decide (l7 < (g7.length:Int))=false:=decide_eq_false m4;have m6:=m5;(try simp only[m0] at m6)
        clear m4;replace H:=bS H;obtain⟨J9,K0,H⟩:=H;replace H:(some (J9,0))=some (b4,b5):=H;have K1:=aM K0;clear K0;obtain⟨rfl,rfl⟩:=q2 H;go_wp2_with (first|((with_reducible refine gc 92 rfl ?_);refine gC 92 (some 57) Try.func92 #[.slice j6 l5.length j7] ?_;(with_reducible refine(Bzp.calls k2 (fun k_=>some k_=(.slice j6 l5.length j7:Value).ownBlock) (.slice j6 l5.length j7) l5 J9 w _ ?_ ?_ K1.out).mono ?_);exact pB;exact Kd.R_tight rfl l9.out;rintro e K2 ⟨K3,rfl,j4,hb,hkp⟩;refine⟨_,rfl,?_⟩;have K4:=aM (Kd.R_mono (ok':=fun k_=>True) j4 (fun k_ hk_=>trivial));replace HB:=aM (hb);clear l9 hb hkp j4))
        go_ret2
        exact⟨_,eW,rX K4.out,pB⟩




/-- What the last step of Add computes: the sign,the sum,the error. -/
def Hzz.f (k:Nat) (na nb:Bool) (x y:List Int):Option (Bool × List Int × Int) :=
 if na=nb then(Ezx.f k x y).bind fun t=>some (na,t.1,t.2) else(Gzx.f k x y).bind fun c=>if c.1 < 0 then(Ezj.f k y x).bind fun t=>some (nb,t.1,t.2) else(Ezj.f k x y).bind fun t=>some (na,t.1,t.2)
theorem Hzz.mono:∀ a6 a7 a8 a9 k,LeO (Hzz.f k a6 a7 a8 a9) (Hzz.f (k+1) a6 a7 a8 a9):=by
 intro a6 a7 a8 a9 k;unfold Hzz.f;exact LeO.ite (LeO.bind (Ezx.mono _ _ k) (fun _=>LeO.refl _)) (LeO.bind (Gzx.mono _ _ k) (fun _=>LeO.ite (LeO.bind (Ezj.mono _ _ k) (fun _=>LeO.refl _)) (LeO.bind (Ezj.mono _ _ k) (fun _=>LeO.refl _))))
def AddS (gx gy gs gn:Nat):Nat→Prop:=fun k_=>k_=gx∨k_=gy∨k_=gs∨k_=gn
theorem Hzz.calls (k B:Nat) (ga gb gx gy gs gn:Nat) (na nb:Bool) (ua1 ua2 ub1 ub2:Value) (Ax:Option Addr) (cx:Nat) (x:List Int) (Ay:Option Addr) (cy:Nat) (y:List Int) (vs:Value) (a6:Bool) (a7:List Int) (a8:Int) (a9 w:World) (hB:Below B a9 w)
  (ha:w.heap[ga]?=some (.cells #[.bool na,ua1,ua2] 33 (0,0))) (hb:w.heap[gb]?=some (.cells #[.bool nb,ub1,ub2] 33 (0,0))) (hx:w.heap[gx]?=some (.cells #[.slice Ax x.length cx] 31 (0,0))) (hy:w.heap[gy]?=some (.cells #[.slice Ay y.length cy] 31 (0,0))) (hs:w.heap[gs]?=some (.cells #[vs] 31 (0,0))) (hn:w.heap[gn]?=some (.cells #[.bool na] 4 (0,0)))
  (nxy:gx≠gy) (nsx:gs≠gx) (nsy:gs≠gy) (bx:B≤gx) (bY:B≤gy) (bs:B≤gs) (bn:B≤gn)
  (hrx:∀ W_,Kept w W_ (AddS gx gy gs gn)→cI W_ Ax x) (hcx:x.length≤cx) (hry:∀ W_,Kept w W_ (AddS gx gy gs gn)→cI W_ Ay y) (hcy:y.length≤cy) (h:Hzz.f k na nb x y=some (a6,a7,a8)) :
  Calls Try.prog 88 #[.pointer (some ⟨ga,0,none⟩),.pointer (some ⟨gb,0,none⟩),.pointer (some ⟨gx,0,none⟩),.pointer (some ⟨gy,0,none⟩),.pointer (some ⟨gs,0,none⟩),.pointer (some ⟨gn,0,none⟩)] w fun e W'=>∃ v:Value,e=.returned (.int .i64 a8)∧W'.heap[gn]?=some (.cells #[.bool a6] 4 (0,0))∧W'.heap[gs]?=some (.cells #[v] 31 (0,0))∧rI W' w (fun _=>True) v a7∧Kept w W' (AddS gx gy gs gn)∧Below B a9 W':=by
 have nsn:=blk_ne hs hn (by decide)
 have nxn:=blk_ne hx hn (by decide)
 have nyn:=blk_ne hy hn (by decide)
 have nas:=blk_ne ha hs (by decide)
 have nbs:=blk_ne hb hs (by decide)
 have nbx:=blk_ne hb hx (by decide)
 have nby:=blk_ne hb hy (by decide)
 have lx:=blk_lt hx;have ly:=blk_lt hy;have ls:=blk_lt hs;have ln:=blk_lt hn;have HBB:=aM hB;have HX:=aM hx;have HY:=aM hy;have HS:=aM hs;have HN:=aM hn;have HA:=aM ha;have HBb:=aM hb;have HRX:=aM hrx;have HRY:=aM hry;have HCX:=aM hcx;have HCY:=aM hcy;obtain⟨hczA_0,hczA_1,hczA_2,hfzA_0,hfzA_1,hfzA_2⟩:=bk3 HA;obtain⟨hczB_0,hczB_1,hczB_2,hfzB_0,hfzB_1,hfzB_2⟩:=bk3 HBb;obtain⟨hczX,hfzX⟩:=bk1 HX;obtain⟨hczY,hfzY⟩:=bk1 HY;obtain⟨hczS,hfzS⟩:=bk1 HS;obtain⟨hczN,hfzN⟩:=bk1 HN;clear hB hx hy hs hn ha hb hrx hry hcx hcy;have HKK:=aM (Kept.refl w (AddS gx gy gs gn));unfold Hzz.f at h;by_cases b4:na=nb
 ·subst b4;rw[if_pos rfl,Option.bind_eq_some_iff] at h;obtain⟨⟨t,b5⟩,ht,h⟩:=h;simp only[Option.some.injEq,Prod.mk.injEq] at h;obtain⟨rfl,rfl,rfl⟩:=h;have HT:=aM ht;clear ht;have b6:(na == na)=true:=by simp
  go_enter Try.func88,Try.ntmps88
  go_wp2_with (first|((with_reducible refine gc 89 rfl ?_);refine gC 89 (some 18) Try.func89 #[.slice Ax x.length cx,.slice Ay y.length cy] ?_;(with_reducible refine(Ezx.calls k _ _ x _ _ y t b5 _ ?_ ?_ ?_ ?_ HT.out).mono ?_);exact HRX.out _ HKK.out;exact HCX.out;exact HRY.out _ HKK.out;exact HCY.out;rintro e b7 ⟨b8,rfl,b9,hb⟩;refine⟨_,rfl,?_⟩;obtain⟨Ao_,co_,eo_⟩:=Kd.R_slice b9;subst eo_;have HO:=aM b9;have HS1:=kb HS hb;have HN1:=kb HN hb;obtain⟨hczS1,hfzS1⟩:=bk1 HS1;have d6:=aM hb;clear hb b9))
  go_ret
  refine⟨_,rfl,blk_far (p:=⟨gs,0,none⟩) HN1.out (Ne.symm nsn) _,blk_put HS1.out 0 _ rfl,?_,kept_far d6.out (Nat.le_refl _) (.inr (.inr (.inl rfl))) _,below_far HBB.out (Nat.le_trans bs (Nat.le_of_lt ls)) d6.out bs _⟩;exact Kd.R_mono (Kd.R_far (p:=⟨gs,0,none⟩) (ok:=fun k_=>w.heap.size≤k_) (Kd.R_reok rfl HO.out (fun k_ hk_=>Kd.R_base HO.out k_ hk_)) (fun k_ hk_ e_=>by have e_:k_=gs:=e_;omega) _) (fun _ _=>trivial)
 ·rw[if_neg b4,Option.bind_eq_some_iff] at h;obtain⟨⟨cv,ce⟩,hcv,h⟩:=h;by_cases d7:cv < 0
  ·rw[if_pos d7,Option.bind_eq_some_iff] at h;obtain⟨⟨t,b5⟩,ht,h⟩:=h;simp only[Option.some.injEq,Prod.mk.injEq] at h;obtain⟨rfl,rfl,rfl⟩:=h;have HT:=aM ht;have HCV:=aM hcv;clear ht hcv;have b6:(na == nb)=false:=by simpa using b4
   have d8:decide (cv < 0)=true:=dE d7;go_enter Try.func88,Try.ntmps88
   go_wp2_with (first|((with_reducible refine gc 69 rfl ?_);refine gC 69 (some 25) Try.func69 #[.slice Ax x.length cx,.slice Ay y.length cy] ?_;(with_reducible refine(Gzx.calls k _ _ x _ _ y cv ce _ ?_ ?_ ?_ ?_ HCV.out).mono ?_);exact HRX.out _ HKK.out;exact HCX.out;exact HRY.out _ HKK.out;exact HCY.out;rintro e d9 ⟨rfl,e6⟩;have hb:=e6.below;clear e6;refine⟨_,rfl,?_⟩;replace HA:=kb HA hb;replace HBb:=kb HBb hb;replace HX:=kb HX hb;replace HY:=kb HY hb;replace HS:=kb HS hb;replace HN:=kb HN hb;replace HKK:=aM (kept_trans HKK.out (show Kept _ d9 (AddS gx gy gs gn) from⟨hb.size,fun i hi _=>hb.block i hi⟩));replace HBB:=aM (HBB.out.trans (hb.mono (Nat.le_trans bs (Nat.le_of_lt ls))));have HLE:=aM hb.size;clear hczX hczY hfzX hfzY hczS hfzS hczN hfzN;obtain⟨hczX,hfzX⟩:=bk1 HX;obtain⟨hczY,hfzY⟩:=bk1 HY;clear hb))
   have HXd:=aM (blk_drew HX.out);have HYd:=aM (blk_drew HY.out);have HSd:=aM (blk_drew HS.out);have HNd:=aM (blk_drew HN.out);have HBd:=aM (blk_drew HBb.out);have HKd:=aM (show Kept w d9.drew (AddS gx gy gs gn) from HKK.out)
   have HBBd:=aM (below_drew1 HBB.out);have HLd:=aM (show w.heap.size≤d9.drew.heap.size from HLE.out)
   refine start_ (n:=7) (S:=fun W=>W.cell? ⟨gb,0,none⟩=some (.bool nb)) (ds:=[]) (bA 7 0) (by kernel_rfl) rfl rfl ((blk_cell HBd.out 0).trans rfl) (fun hHeld=>?_)
   clear HX HY HS HN HBb HKK HBB HLE hczX hfzX hczY hfzY;generalize d9.drew=wd at HXd HYd HSd HNd HBd HKd HBBd HLd hHeld ⊢;obtain⟨hczX,hfzX⟩:=bk1 HXd;obtain⟨hczY,hfzY⟩:=bk1 HYd;obtain⟨hczN,hfzN⟩:=bk1 HNd;refine pV 2 32 (bA 7 4) ?_;refine tV 3 33 (bA 7 12) hHeld ?_;refine two_ (i:=0) (j:=1) (Ni:=some 30) (Nj:=some 31) (bA 7 13) (bA 7 14) rfl rfl rfl rfl (by kernel_rfl) (by decide) (by decide) (fun K hK=>?_) (fun K hK=>?_)
   refine value_ (v:=?_) (w1:=wd) (by rfl) rfl ?_ ?_
   rotate_left
   ·go_simp
    rfl
   refine hK.out _ _ hHeld (fun _=>?_)
   clear hK K;refine nm 30 ?_;refine one_ (i:=1) (N:=some 31) (bA 7 15) rfl rfl (by kernel_rfl) (by decide) (fun K hK=>?_)
   refine value_ (v:=?_) (w1:=wd) (by rfl) rfl ?_ ?_
   rotate_left
   ·go_simp
    rfl
   refine hK.out _ _ hHeld (fun _=>?_)
   clear hK K;refine nm 31 ?_;rotate_left
   refine value_ (v:=?_) (w1:=wd) (by rfl) rfl ?_ ?_
   rotate_left
   ·go_simp
    rfl
   refine hK.out _ _ hHeld (fun _=>?_)
   clear hK K;refine nm 31 ?_;refine one_ (i:=0) (N:=some 30) (bA 7 15) rfl rfl (by kernel_rfl) (by decide) (fun K hK=>?_)
   refine value_ (v:=?_) (w1:=wd) (by rfl) rfl ?_ ?_
   rotate_left
   ·go_simp
    rfl
   refine hK.out _ _ hHeld (fun _=>?_)
   clear hK K;refine nm 30 ?_;all_goals
    refine one_ (i:=4) (N:=none) (bA 7 31) rfl rfl (by kernel_rfl) (by decide) (fun K hK=>?_)
    refine skip_ (w1:=?_) (by rfl) rfl ?_ ?_
    rotate_left
    ·go_simp
     rfl
    have hH4:(wd.setCell ⟨gx,0,none⟩ (.slice Ay y.length cy)).cell? ⟨gb,0,none⟩=some (.bool nb):=(cell_far nbx _).trans hHeld;refine hK.out _ _ hH4 (fun _=>?_)
    clear hK K;have hfzY4:(wd.setCell ⟨gx,0,none⟩ (.slice Ay y.length cy)).frozen? ⟨gy,0,none⟩=false:=blk_frozen (blk_far (p:=⟨gx,0,none⟩) HYd.out (Ne.symm nxy) _) 0;have hczY4:(wd.setCell ⟨gx,0,none⟩ (.slice Ay y.length cy)).cell? ⟨gy,0,none⟩=some (.slice Ay y.length cy):=(cell_far (Ne.symm nxy) _).trans hczY;refine one_ (i:=5) (N:=none) (bA 7 63) rfl rfl (by kernel_rfl) (by decide) (fun K hK=>?_)
    refine skip_ (w1:=?_) (by rfl) rfl ?_ ?_
    rotate_left
    ·go_simp
     rfl
    refine hK.out _ _ ((cell_far nby _).trans hH4) (fun _=>?_)
    clear hK K;have hfzN5:((wd.setCell ⟨gx,0,none⟩ (.slice Ay y.length cy)).setCell ⟨gy,0,none⟩ (.slice Ax x.length cx)).frozen? ⟨gn,0,none⟩=false:=blk_frozen (blk_far (p:=⟨gy,0,none⟩) (blk_far (p:=⟨gx,0,none⟩) HNd.out (Ne.symm nxn) _) (Ne.symm nyn) _) 0;have hczN5:((wd.setCell ⟨gx,0,none⟩ (.slice Ay y.length cy)).setCell ⟨gy,0,none⟩ (.slice Ax x.length cx)).cell? ⟨gn,0,none⟩=some (.bool na):=(cell_far (Ne.symm nyn) _).trans ((cell_far (Ne.symm nxn) _).trans hczN);refine one_ (i:=6) (N:=none) (bA 7 127) rfl rfl (by kernel_rfl) (by decide) (fun K hK=>?_)
    refine skip_ (w1:=?_) (by rfl) rfl ?_ ?_
    rotate_left
    ·go_simp
     rfl
    have nbn:gb≠gn:=blk_ne HBd.out HNd.out (by decide)
    refine hK.out _ _ ((cell_far nbn _).trans ((cell_far nby _).trans hH4)) (fun _=>?_)
    clear hK K;refine done_ (by kernel_rfl) ?_
    have HX:=aM (blk_far (p:=⟨gn,0,none⟩) (blk_far (p:=⟨gy,0,none⟩) (blk_put HXd.out 0 (.slice Ay y.length cy) rfl) nxy (.slice Ax x.length cx)) nxn (.bool nb));have HY:=aM (blk_far (p:=⟨gn,0,none⟩) (blk_put (blk_far (p:=⟨gx,0,none⟩) HYd.out (Ne.symm nxy) (.slice Ay y.length cy)) 0 (.slice Ax x.length cx) rfl) nyn (.bool nb));have HN:=aM (blk_put (blk_far (p:=⟨gy,0,none⟩) (blk_far (p:=⟨gx,0,none⟩) HNd.out (Ne.symm nxn) (.slice Ay y.length cy)) (Ne.symm nyn) (.slice Ax x.length cx)) 0 (.bool nb) rfl);have HS:=aM (blk_far (p:=⟨gn,0,none⟩) (blk_far (p:=⟨gy,0,none⟩) (blk_far (p:=⟨gx,0,none⟩) HSd.out nsx (.slice Ay y.length cy)) nsy (.slice Ax x.length cx)) nsn (.bool nb));have HKK:=aM (((HKd.out.setCell (p:=⟨gx,0,none⟩) (.inl (.inl rfl)) (.slice Ay y.length cy)).setCell (p:=⟨gy,0,none⟩) (.inl (.inr (.inl rfl))) (.slice Ax x.length cx)).setCell (p:=⟨gn,0,none⟩) (.inl (.inr (.inr (.inr rfl)))) (.bool nb));have HBB:=aM (((HBBd.out.setCell (p:=⟨gx,0,none⟩) bx (.slice Ay y.length cy)).setCell (p:=⟨gy,0,none⟩) bY (.slice Ax x.length cx)).setCell (p:=⟨gn,0,none⟩) bn (.bool nb));have HLE:=aM (show w.heap.size≤(((wd.setCell ⟨gx,0,none⟩ (.slice Ay y.length cy)).setCell ⟨gy,0,none⟩ (.slice Ax x.length cx)).setCell ⟨gn,0,none⟩ (.bool nb)).heap.size from HKK.out.1)
    clear HXd HYd HSd HNd HBd HKd HBBd HLd hHeld hczX hfzX hczY hfzY hczN hfzN hH4 hfzY4 hczY4 hfzN5 hczN5 nbn;generalize (((wd.setCell ⟨gx,0,none⟩ (.slice Ay y.length cy)).setCell ⟨gy,0,none⟩ (.slice Ax x.length cx)).setCell ⟨gn,0,none⟩ (.bool nb))=wq at HX HY HN HS HKK HBB HLE ⊢;obtain⟨hczX,hfzX⟩:=bk1 HX;obtain⟨hczY,hfzY⟩:=bk1 HY;go_wp2_with (first|((with_reducible refine gc 90 rfl ?_);refine gC 90 (some 37) Try.func90 #[.slice Ay y.length cy,.slice Ax x.length cx] ?_;(with_reducible refine(Ezj.calls k _ _ y _ _ x t b5 _ ?_ ?_ ?_ ?_ HT.out).mono ?_);exact HRY.out _ HKK.out;exact HCY.out;exact HRX.out _ HKK.out;exact HCX.out;rintro e b7 ⟨b8,rfl,b9,hb⟩;refine⟨_,rfl,?_⟩;obtain⟨Ao_,co_,eo_⟩:=Kd.R_slice b9;subst eo_;have HO:=aM b9;have HS1:=kb HS hb;have HN1:=kb HN hb;obtain⟨hczS1,hfzS1⟩:=bk1 HS1;have d6:=aM hb;clear hb b9))
    go_ret
    have hle9:=HLE.out;refine⟨_,rfl,blk_far (p:=⟨gs,0,none⟩) HN1.out (Ne.symm nsn) _,blk_put HS1.out 0 _ rfl,?_,kept_trans HKK.out (kept_far d6.out (Nat.le_refl _) (.inr (.inr (.inl rfl))) _),below_far HBB.out (Nat.le_trans (Nat.le_trans bs (Nat.le_of_lt ls)) hle9) d6.out bs _⟩;exact Kd.R_lower (Kd.R_mono (Kd.R_far (p:=⟨gs,0,none⟩) (ok:=fun k_=>wq.heap.size≤k_) (Kd.R_reok rfl HO.out (fun k_ hk_=>Kd.R_base HO.out k_ hk_)) (fun k_ hk_ e_=>by have e_:k_=gs:=e_;omega) _) (fun _ _=>trivial)) hle9
  rw[if_neg d7,Option.bind_eq_some_iff] at h;obtain⟨⟨t,b5⟩,ht,h⟩:=h;simp only[Option.some.injEq,Prod.mk.injEq] at h;obtain⟨rfl,rfl,rfl⟩:=h;have HT:=aM ht;have HCV:=aM hcv;clear ht hcv;have b6:(na == nb)=false:=by simpa using b4
  have d8:decide (cv < 0)=false:=decide_eq_false d7;go_enter Try.func88,Try.ntmps88
  go_wp2_with (first|((with_reducible refine gc 69 rfl ?_);refine gC 69 (some 25) Try.func69 #[.slice Ax x.length cx,.slice Ay y.length cy] ?_;(with_reducible refine(Gzx.calls k _ _ x _ _ y cv ce _ ?_ ?_ ?_ ?_ HCV.out).mono ?_);exact HRX.out _ HKK.out;exact HCX.out;exact HRY.out _ HKK.out;exact HCY.out;rintro e d9 ⟨rfl,e6⟩;have hb:=e6.below;clear e6;refine⟨_,rfl,?_⟩;replace HA:=kb HA hb;replace HBb:=kb HBb hb;replace HX:=kb HX hb;replace HY:=kb HY hb;replace HS:=kb HS hb;replace HN:=kb HN hb;replace HKK:=aM (kept_trans HKK.out (show Kept _ d9 (AddS gx gy gs gn) from⟨hb.size,fun i hi _=>hb.block i hi⟩));replace HBB:=aM (HBB.out.trans (hb.mono (Nat.le_trans bs (Nat.le_of_lt ls))));have HLE:=aM hb.size;clear hczX hczY hfzX hfzY hczS hfzS hczN hfzN;obtain⟨hczX,hfzX⟩:=bk1 HX;obtain⟨hczY,hfzY⟩:=bk1 HY;clear hb)|((with_reducible refine gc 90 rfl ?_);refine gC 90 (some 37) Try.func90 #[.slice Ax x.length cx,.slice Ay y.length cy] ?_;(with_reducible refine(Ezj.calls k _ _ x _ _ y t b5 _ ?_ ?_ ?_ ?_ HT.out).mono ?_);exact HRX.out _ HKK.out;exact HCX.out;exact HRY.out _ HKK.out;exact HCY.out;rintro e b7 ⟨b8,rfl,b9,hb⟩;refine⟨_,rfl,?_⟩;obtain⟨Ao_,co_,eo_⟩:=Kd.R_slice b9;subst eo_;have HO:=aM b9;have HS1:=kb HS hb;have HN1:=kb HN hb;obtain⟨hczS1,hfzS1⟩:=bk1 HS1;have d6:=aM hb;clear hb b9))
  go_ret
  have hle9:=HLE.out;refine⟨rfl,blk_far (p:=⟨gs,0,none⟩) HN1.out (Ne.symm nsn) _,_,blk_put HS1.out 0 _ rfl,?_,kept_trans HKK.out (kept_far d6.out (Nat.le_refl _) (.inr (.inr (.inl rfl))) _),below_far HBB.out (Nat.le_trans (Nat.le_trans bs (Nat.le_of_lt ls)) hle9) d6.out bs _⟩;exact Kd.R_lower (Kd.R_mono (Kd.R_far (p:=⟨gs,0,none⟩) (ok:=fun k_=>d9.heap.size≤k_) (Kd.R_reok rfl HO.out (fun k_ hk_=>Kd.R_base HO.out k_ hk_)) (fun k_ hk_ e_=>by have e_:k_=gs:=e_;omega) _) (fun _ _=>trivial)) hle9
/-- A variable that holds a row of its own. -/
structure Bx_ (W:World) (N g:Nat) (v:Value) (x:List Int):Prop where
 cell:W.heap[g]?=some (.cells #[v] 31 (0,0))
 row:Kd.R (Kd.int .i64) 3 W N (fun k_=>N≤k_) v x
theorem Bx_.step {W W1:World} {N g g':Nat} {v u:Value} {x:List Int} (h:Bx_ W N g v x) (hb:Below W.heap.size W W1) (hne:g≠g') (hlt:g' < N):Bx_ (W1.setCell ⟨g',0,none⟩ u) N g v x :=
 ⟨blk_far (p:=⟨g',0,none⟩) (blk_below h.cell hb) hne u,Kd.R_far (p:=⟨g',0,none⟩) (Kd.R_below h.row hb) (fun k_ hk_ e_=>by have e_:k_=g':=e_;omega) u⟩
theorem Bx_.new {W W1:World} {N g:Nat} {v o:Value} {x:List Int} (hg:W1.heap[g]?=some (.cells #[o] 31 (0,0))) (h:Kd.R (Kd.int .i64) 3 W1 W.heap.size (fun _=>True) v x) (hN:N≤W.heap.size) (hlt:g < N):Bx_ (W1.setCell ⟨g,0,none⟩ v) N g v x :=
 ⟨blk_put hg 0 v rfl,Kd.R_far (p:=⟨g,0,none⟩) (Kd.R_lower (Kd.R_reok rfl h (fun k_ hk_=>Nat.le_trans hN (Kd.R_base h k_ hk_))) hN) (fun k_ hk_ e_=>by have e_:k_=g:=e_;omega) v⟩
theorem Bx_.kept {W W1:World} {N g:Nat} {v:Value} {x:List Int} {S:Nat→Prop} (h:Bx_ W N g v x) (hk:Kept W W1 S) (hg:¬ S g) (hS:∀ k,N≤k→¬ S k):Bx_ W1 N g v x :=
 ⟨blk_kept h.cell hk hg,Kd.R_mono (Kd.R_keptB h.row hk hS) (fun _ hk_=>hk_.1)⟩
theorem Bx_.reads {W W1:World} {N g n c:Nat} {A:Option Addr} {x:List Int} {S:Nat→Prop} (h:Bx_ W N g (.slice A n c) x) (hk:Kept W W1 S) (hS:∀ k,N≤k→¬ S k):cI W1 A x:=(Kd.R_reads' (Kd.R_keptB h.row hk hS)).2.2
def Gzj.f (k:Nat) (na nb:Bool) (aP aQ bP bQ:List Int):Option (Int × Bool × List Int × List Int) :=
 (Czy.f k aP bQ).bind fun x=>if x.2=0 then(Czy.f k bP aQ).bind fun y=>if y.2=0 then(Czy.f k aQ bQ).bind fun q=>if q.2=0 then(Hzz.f k na nb x.1 y.1).bind fun t=>some (t.2.2,t.1,t.2.1,q.1) else some (q.2,na,([]:List Int),([]:List Int)) else some (y.2,na,([]:List Int),([]:List Int)) else some (x.2,na,([]:List Int),([]:List Int))
theorem Gzj.mono:∀ a6 a7 a8 a9 b4 b5 k,LeO (Gzj.f k a6 a7 a8 a9 b4 b5) (Gzj.f (k+1) a6 a7 a8 a9 b4 b5):=by
 intro a6 a7 a8 a9 b4 b5 k;unfold Gzj.f;exact LeO.bind (Czy.mono _ _ k) (fun _=>LeO.ite (LeO.bind (Czy.mono _ _ k) (fun _=>LeO.ite (LeO.bind (Czy.mono _ _ k) (fun _=>LeO.ite (LeO.bind (Hzz.mono _ _ _ _ k) (fun _=>LeO.refl _)) (LeO.refl _))) (LeO.refl _))) (LeO.refl _))
def AddS5 (gx gy gq gs gn:Nat):Nat→Prop:=fun k_=>k_=gx∨k_=gy∨k_=gq∨k_=gs∨k_=gn
/-- What the four steps leave. -/
structure Fin4 (B:Nat) (w0 w W:World) (gx gy gq gs gn:Nat) (r:Int) (neg:Bool) (sum q:List Int):Prop where
 kept:Kept w W (AddS5 gx gy gq gs gn)
 below:Below B w0 W
 fin:r=0→∃ vs vq:Value,W.heap[gn]?=some (.cells #[.bool neg] 4 (0,0))∧Bx_ W w.heap.size gs vs sum∧Bx_ W w.heap.size gq vq q
set_option maxHeartbeats 4000000 in
theorem Gzj.calls (k B a6 a7 a8 ga gb gx gy gq gs gn:Nat) (na nb:Bool) (ua1 ua2 ub1 ub2:Value) (AaP:Option Addr) (caP:Nat) (aP:List Int) (AaQ:Option Addr) (caQ:Nat) (aQ:List Int) (AbP:Option Addr) (cbP:Nat) (bP:List Int) (AbQ:Option Addr) (cbQ:Nat) (bQ:List Int) (a9:Int) (b4:Bool) (b5 b6:List Int) (g cg:Nat) (b7 w:World) (hB:Below B b7 w)
  (hg:w.heap[g]?=some (.cells #[.func (.func (thkFn 96 a6).1) #[] (thkFn 96 a6).2,.func (.func (thkFn 96 a7).1) #[] (thkFn 96 a7).2,.func (.func (thkFn 96 a8).1) #[] (thkFn 96 a8).2,.func (.func 88) #[] #[.pointer (some ⟨ga,0,none⟩),.pointer (some ⟨gb,0,none⟩),.pointer (some ⟨gx,0,none⟩),.pointer (some ⟨gy,0,none⟩),.pointer (some ⟨gs,0,none⟩),.pointer (some ⟨gn,0,none⟩)]] 80 (0,0)))
  (b8:Thk w a6 gx AaP aP.length caP AbQ bQ.length cbQ) (b9:Thk w a7 gy AbP bP.length cbP AaQ aQ.length caQ) (d6:Thk w a8 gq AaQ aQ.length caQ AbQ bQ.length cbQ)
  (ha:w.heap[ga]?=some (.cells #[.bool na,ua1,ua2] 33 (0,0))) (hb:w.heap[gb]?=some (.cells #[.bool nb,ub1,ub2] 33 (0,0)))
  (hx:w.heap[gx]?=some (.cells #[.slice none 0 0] 31 (0,0))) (hy:w.heap[gy]?=some (.cells #[.slice none 0 0] 31 (0,0))) (hq:w.heap[gq]?=some (.cells #[.slice none 0 0] 31 (0,0))) (hs:w.heap[gs]?=some (.cells #[.slice none 0 0] 31 (0,0))) (hn:w.heap[gn]?=some (.cells #[.bool na] 4 (0,0)))
  (o1:gx < gy) (o2:gy < gq) (o3:gq < gs) (o4:gs < gn) (o5:gn < a6) (o6:a6+2 < a7) (o7:a7+2 < a8) (hBx:B≤gx)
  (d7:∀ W_,Kept w W_ (AddS5 gx gy gq gs gn)→cI W_ AaP aP) (d8:aP.length≤caP) (d9:∀ W_,Kept w W_ (AddS5 gx gy gq gs gn)→cI W_ AaQ aQ) (e6:aQ.length≤caQ)
  (e7:∀ W_,Kept w W_ (AddS5 gx gy gq gs gn)→cI W_ AbP bP) (e8:bP.length≤cbP) (e9:∀ W_,Kept w W_ (AddS5 gx gy gq gs gn)→cI W_ AbQ bQ) (f4:bQ.length≤cbQ)
  (h:Gzj.f k na nb aP aQ bP bQ=some (a9,b4,b5,b6)) :
  Calls Try.prog 67 #[.slice (some ⟨g,0,none⟩) 4 cg] w fun e w'=>e=.returned (.int .i64 a9)∧Fin4 B b7 w w' gx gy gq gs gn a9 b4 b5 b6:=by
 have hfn:∃ fn,Try.prog.funcs[96]?=some fn∧(fn.name == "runtime.NumGoroutine")=false∧fn.body.isSome=true:=⟨_,Try.func96,by kernel_rfl,rfl⟩
 have hfn1:∃ fn,Try.prog.funcs[88]?=some fn∧(fn.name == "runtime.NumGoroutine")=false∧fn.body.isSome=true:=⟨_,Try.func88,by kernel_rfl,rfl⟩
 have lx:=blk_lt hx;have ly:=blk_lt hy;have lq:=blk_lt hq;have ls:=blk_lt hs;have ln:=blk_lt hn;have f5:=blk_ne hg hx (by decide)
 have f6:=blk_ne hg hn (by decide)
 have f7:=blk_ne hg hy (by decide)
 have f8:=blk_ne hg hq (by decide)
 have f9:=blk_ne hg hs (by decide)
 have g4:=blk_ne ha hx (by decide)
 have g5:=blk_ne ha hy (by decide)
 have g6:=blk_ne ha hq (by decide)
 have g7:=blk_ne ha hs (by decide)
 have g8:=blk_ne ha hn (by decide)
 have d1:=blk_ne hb hx (by decide)
 have d2:=blk_ne hb hy (by decide)
 have d3:=blk_ne hb hq (by decide)
 have d4:=blk_ne hb hs (by decide)
 have d5:=blk_ne hb hn (by decide)
 have nS:∀ i,i≠gx→i≠gy→i≠gq→i≠gs→i≠gn→¬ AddS5 gx gy gq gs gn i:=fun i g9 j3 j4 j5 j6 j7=>by
  unfold AddS5 at j7;omega
 have far:∀ (W:World) (i:Nat) (o:Obj),Kept w W (AddS5 gx gy gq gs gn)→i≠gx→i≠gy→i≠gq→i≠gs→i≠gn→w.heap[i]?=some o→W.heap[i]?=some o:=fun W i o hk g9 j3 j4 j5 j6 ho=>blk_kept ho hk (nS i g9 j3 j4 j5 j6)
 have thk:∀ (W:World) (b gp:Nat) (A A':Option Addr) (n c n' c':Nat),Kept w W (AddS5 gx gy gq gs gn)→gn < b→Thk w b gp A n c A' n' c'→Thk W b gp A n c A' n' c':=fun W b gp A A' n c n' c' hk hb hT =>
  ⟨far W b _ hk (by omega) (by omega) (by omega) (by omega) (by omega) hT.tp,far W (b+1) _ hk (by omega) (by omega) (by omega) (by omega) (by omega) hT.fa,far W (b+2) _ hk (by omega) (by omega) (by omega) (by omega) (by omega) hT.fb,hT.lt⟩
 let I:Nat→World→Prop:=fun j W=>Kept w W (AddS5 gx gy gq gs gn)∧Below B b7 W∧match j with
  | 0=>W=w
  | 1=>∃ (v:Value) (x:List Int),Czy.f k aP bQ=some (x,0)∧Bx_ W w.heap.size gx v x∧Kept w W (fun k_=>k_=gx)
  | 2=>∃ (v j8:Value) (x y:List Int),Czy.f k aP bQ=some (x,0)∧Czy.f k bP aQ=some (y,0)∧Bx_ W w.heap.size gx v x∧Bx_ W w.heap.size gy j8 y∧Kept w W (fun k_=>k_=gx∨k_=gy)
  | 3=>∃ (v j8 j9:Value) (x y q:List Int),Czy.f k aP bQ=some (x,0)∧Czy.f k bP aQ=some (y,0)∧Czy.f k aQ bQ=some (q,0)∧Bx_ W w.heap.size gx v x∧Bx_ W w.heap.size gy j8 y∧Bx_ W w.heap.size gq j9 q∧Kept w W (fun k_=>k_=gx∨k_=gy∨k_=gq)
  | _=>Fin4 B b7 w W gx gy gq gs gn 0 b4 b5 b6∧a9=0
 let Qr:Int→World→Prop:=fun r W=>Fin4 B b7 w W gx gy gq gs gn r b4 b5 b6∧r=a9
 unfold Gzj.f at h;rw[Option.bind_eq_some_iff] at h;obtain⟨⟨x,l5⟩,l6,h⟩:=h;have hS:Steps_ [thkFn 96 a6,thkFn 96 a7,thkFn 96 a8,(88,#[.pointer (some ⟨ga,0,none⟩),.pointer (some ⟨gb,0,none⟩),.pointer (some ⟨gx,0,none⟩),.pointer (some ⟨gy,0,none⟩),.pointer (some ⟨gs,0,none⟩),.pointer (some ⟨gn,0,none⟩)])] ⟨g,0,none⟩ I Qr:=by
  refine⟨fun j W hI i x hx=>?_,fun j W z hI hz=>?_,fun W hI=>⟨hI.2.2.1,hI.2.2.2.symm⟩⟩
  ·rw[add_plain];have g9:=far W g _ hI.1 f5 f7 f8 f9 f6 hg;rw[blk_cell g9 i];match i,hx with
   | 0,hx=>cases hx;rfl
   | 1,hx=>cases hx;rfl
   | 2,hx=>cases hx;rfl
   | 3,hx=>cases hx;rfl
   | i+4,hx=>simp at hx
  ·match j,hz,hI with
   | 0,hz,hI =>
    cases hz
    obtain⟨hk,hbl,hw⟩:=hI;cases hw
    refine⟨hfn,?_⟩;refine(Hzj.calls k a6 gx AaP caP aP AbQ cbQ bQ _ x l5 w b8 hx (d7 w hk) d8 (e9 w hk) f4 l6).mono ?_;rintro e W' ⟨W1,v,rfl,rfl,hR,l7⟩;have hkx:Kept w (W1.setCell ⟨gx,0,none⟩ v) (fun k_=>k_=gx):=kept_far (S:=fun k_=>k_=gx) l7 (Nat.le_refl _) rfl v
    have hk5:Kept w (W1.setCell ⟨gx,0,none⟩ v) (AddS5 gx gy gq gs gn):=kept_far l7 (Nat.le_refl _) (.inl rfl) v;have hbl1:=below_far hbl (Nat.le_trans hBx (Nat.le_of_lt lx)) l7 hBx v;refine⟨l5,rfl,fun l8=>?_,fun l8=>?_⟩
    ·subst l8;exact⟨hk5,hbl1,v,x,l6,Bx_.new (blk_below hx l7) hR (Nat.le_refl _) lx,hkx⟩
    ·simp only[if_neg l8,Option.some.injEq,Prod.mk.injEq] at h;obtain⟨rfl,rfl,rfl,rfl⟩:=h;exact⟨⟨hk5,hbl1,fun l9=>absurd l9 l8⟩,rfl⟩
   | 1,hz,hI =>
    cases hz
    obtain⟨hk,hbl,v,x',m0,hbx,hkx⟩:=hI;rw[l6] at m0;cases m0
    simp only[if_true] at h;rw[Option.bind_eq_some_iff] at h;obtain⟨⟨y,m4⟩,m5,h⟩:=h;have hyW:=blk_kept hy hkx (by omega)
    refine⟨hfn,?_⟩;refine(Hzj.calls k a7 gy AbP cbP bP AaQ caQ aQ _ y m4 W (thk W _ _ _ _ _ _ _ _ hk (by omega) b9) hyW (e7 W hk) e8 (d9 W hk) e6 m5).mono ?_
    rintro e W' ⟨W1,j8,rfl,rfl,hR,l7⟩;have hkx2:Kept w (W1.setCell ⟨gy,0,none⟩ j8) (fun k_=>k_=gx∨k_=gy):=kept_trans ⟨hkx.1,fun i hi hn=>hkx.2 i hi (fun e_=>hn (.inl e_))⟩ (kept_far l7 (Nat.le_refl _) (.inr rfl) j8)
    have hk5:Kept w (W1.setCell ⟨gy,0,none⟩ j8) (AddS5 gx gy gq gs gn):=kept_trans hk (kept_far l7 (Nat.le_refl _) (.inr (.inl rfl)) j8);have hbl1:=below_far hbl (Nat.le_trans (Nat.le_trans hBx (Nat.le_of_lt lx)) hk.1) l7 (show B≤gy by omega) j8
    refine⟨m4,rfl,fun l8=>?_,fun l8=>?_⟩
    ·subst l8;exact⟨hk5,hbl1,v,j8,x,y,l6,m5,hbx.step l7 (by omega) ly,Bx_.new (blk_below hyW l7) hR hk.1 ly,hkx2⟩
    ·simp only[if_neg l8,Option.some.injEq,Prod.mk.injEq] at h;obtain⟨rfl,rfl,rfl,rfl⟩:=h;exact⟨⟨hk5,hbl1,fun l9=>absurd l9 l8⟩,rfl⟩
   | 2,hz,hI =>
    cases hz
    obtain⟨hk,hbl,v,j8,x',y,m0,m5,hbx,hby,hkx⟩:=hI;rw[l6] at m0;cases m0
    simp only[if_true,m5,Option.bind_some] at h;rw[Option.bind_eq_some_iff] at h;obtain⟨⟨q,m6⟩,m7,h⟩:=h;have hqW:=blk_kept hq hkx (by omega)
    refine⟨hfn,?_⟩;refine(Hzj.calls k a8 gq AaQ caQ aQ AbQ cbQ bQ _ q m6 W (thk W _ _ _ _ _ _ _ _ hk (by omega) d6) hqW (d9 W hk) e6 (e9 W hk) f4 m7).mono ?_
    rintro e W' ⟨W1,j9,rfl,rfl,hR,l7⟩;have hkx2:Kept w (W1.setCell ⟨gq,0,none⟩ j9) (fun k_=>k_=gx∨k_=gy∨k_=gq):=kept_trans ⟨hkx.1,fun i hi hn=>hkx.2 i hi (fun e_=>hn (by omega))⟩ (kept_far l7 (Nat.le_refl _) (.inr (.inr rfl)) j9)
    have hk5:Kept w (W1.setCell ⟨gq,0,none⟩ j9) (AddS5 gx gy gq gs gn):=kept_trans hk (kept_far l7 (Nat.le_refl _) (.inr (.inr (.inl rfl))) j9);have hbl1:=below_far hbl (Nat.le_trans (Nat.le_trans hBx (Nat.le_of_lt lx)) hk.1) l7 (show B≤gq by omega) j9
    refine⟨m6,rfl,fun l8=>?_,fun l8=>?_⟩
    ·subst l8;exact⟨hk5,hbl1,v,j8,j9,x,y,q,l6,m5,m7,hbx.step l7 (by omega) lq,hby.step l7 (by omega) lq,Bx_.new (blk_below hqW l7) hR hk.1 lq,hkx2⟩
    ·simp only[if_neg l8,Option.some.injEq,Prod.mk.injEq] at h;obtain⟨rfl,rfl,rfl,rfl⟩:=h;exact⟨⟨hk5,hbl1,fun l9=>absurd l9 l8⟩,rfl⟩
   | 3,hz,hI =>
    cases hz
    obtain⟨hk,hbl,v,j8,j9,x',y,q,m0,m5,m7,hbx,hby,hbq,hkx⟩:=hI;rw[l6] at m0;cases m0
    simp only[if_true,m5,m7,Option.bind_some] at h;rw[Option.bind_eq_some_iff] at h;obtain⟨⟨m8,m9,n0⟩,n7,h⟩:=h;simp only[Option.some.injEq,Prod.mk.injEq] at h;obtain⟨rfl,rfl,rfl,rfl⟩:=h;have hsW:=blk_kept hs hkx (by omega)
    have hnW:=blk_kept hn hkx (by omega)
    have haW:=far W ga _ hk g4 g5 g6 g7 g8 ha;have hbW:=far W gb _ hk d1 d2 d3 d4 d5 hb;obtain⟨Ax,cx,ex⟩:=Kd.R_slice hbx.row;subst ex;obtain⟨Ay,cy,ey⟩:=Kd.R_slice hby.row;subst ey;have hS4:∀ k_,w.heap.size≤k_→¬ AddS gx gy gs gn k_:=fun k_ g9 j3=>by unfold AddS at j3;omega
    refine⟨hfn1,?_⟩;refine(Hzz.calls k B ga gb gx gy gs gn na nb ua1 ua2 ub1 ub2 Ax cx x Ay cy y _ m8 m9 n0 b7 W hbl haW hbW hbx.cell hby.cell hsW hnW (by omega) (by omega) (by omega) hBx (by omega) (by omega) (by omega) (fun W_ hk_=>hbx.reads hk_ hS4) (Kd.R_reads' hbx.row).2.1 (fun W_ hk_=>hby.reads hk_ hS4) (Kd.R_reads' hby.row).2.1 n7).mono ?_
    rintro e W' ⟨vs,rfl,hn',hs',hR',hk',hb'⟩;have hk5:Kept w W' (AddS5 gx gy gq gs gn):=kept_trans hk ⟨hk'.1,fun i hi hn=>hk'.2 i hi (fun e_=>hn (by unfold AddS at e_;unfold AddS5;omega))⟩
    have hfin:Fin4 B b7 w W' gx gy gq gs gn n0 m8 m9 q:=⟨hk5,hb',fun _=>⟨vs,j9,hn',⟨hs',Kd.R_lower (Kd.R_reok rfl hR' (fun k_ hk_=>Nat.le_trans hk.1 (Kd.R_base hR' k_ hk_))) hk.1⟩,hbq.kept hk' (fun e_=>by unfold AddS at e_;omega) hS4⟩⟩
    refine⟨n0,rfl,fun l8=>?_,fun l8=>⟨hfin,rfl⟩⟩
    subst l8;exact⟨hk5,hb',hfin,rfl⟩
   | j+4,hz,hI=>simp at hz
 have hI0:I 0 w:=⟨⟨Nat.le_refl _,fun _ _ _=>rfl⟩,hB,rfl⟩
 refine(Izz.calls _ ⟨g,0,none⟩ cg w I Qr hS hI0 (by simp)).mono ?_
 rintro e w' ⟨r,rfl,hF,rfl⟩;exact⟨rfl,hF⟩
theorem rat_pair_C {W:World} {g:Nat} {T:TypeId} {n m:Bool} {A B A' B':Option Addr} {p q p' q':List Int} {c d c' d':Nat} (hb:W.heap[g]?=some (.cells #[.bool n,.slice A p.length c,.slice B q.length d,.bool m,.slice A' p'.length c',.slice B' q'.length d'] T (0,0)))
  (a6:cI W A p) (l1:p.length≤c) (a7:cI W B q) (l2:q.length≤d) (a8:Kd.C (Kd.int .i64) W A' p'.length p') (a9:p'.length≤c') (b4:Kd.C (Kd.int .i64) W B' q'.length q') (b5:q'.length≤d') :
  Kd.C k33 W (some ⟨g,0,none⟩) 2 [(⟨n,p,q⟩:S33),(⟨m,p',q'⟩:S33)]:=by
 refine⟨rfl,by simp,fun _=>⟨_,rfl,fun j x hj=>?_⟩⟩
 match j,hj with
 | 0,hj =>
  cases hj
  refine⟨_,rfl,k33_mk W ⟨n,p,q⟩ l1 a6 l2 a7,fun i u hu=>?_⟩
  rw[add_plain];refine(blk_cell hb _).trans ?_;match i,hu with
  | 0,hu=>exact hu
  | 1,hu=>exact hu
  | 2,hu=>exact hu
  | i+3,hu=>simp at hu
 | 1,hj =>
  cases hj
  refine⟨_,rfl,k33_mk W ⟨m,p',q'⟩ a9 a8 b5 b4,fun i u hu=>?_⟩
  rw[add_plain];refine(blk_cell hb _).trans ?_;match i,hu with
  | 0,hu=>exact hu
  | 1,hu=>exact hu
  | 2,hu=>exact hu
  | i+3,hu=>simp at hu
 | j+2,hj=>simp at hj
theorem C_blocks {w W:World} {A:Option Addr} {n:Nat} {xs:List Int} (h:Kd.C (Kd.int .i64) w A n xs) (hb:∀ i,i < w.heap.size→W.heap[i]?=w.heap[i]?):Kd.C (Kd.int .i64) W A n xs:=by
 refine⟨h.1,h.2.1,fun hp=>?_⟩
 obtain⟨ad,a6,a7⟩:=h.2.2 hp;refine⟨ad,a6,fun j q hj=>?_⟩
 obtain⟨cs,a8,a9,b4⟩:=a7 j q hj;refine⟨cs,a8,a9,fun i u hu=>?_⟩
 have b5:=b4 i u hu;rw[← b5];exact World.cell?_of_block (w:=w) (hb _ (World.block_lt_of_cell? w _ b5))
def Gzz.f (k:Nat) (a0_0:Bool) (l0_1:List Int) (l0_2:List Int) (a1_0:Bool) (l1_1:List Int) (l1_2:List Int):Option (Bool × List Int × List Int × Int) :=
 (Czw.f k [(⟨a0_0,l0_1,l0_2⟩:S33),(⟨a1_0,l1_1,l1_2⟩:S33)]).bind fun t=>if t=true then((Gzj.f k a0_0 a1_0 l0_1 l0_2 l1_1 l1_2).bind fun b=>if b.1=0 then(Fzz.f k b.2.1 b.2.2.1 b.2.2.2).bind (fun c=>some (c.1,c.2.1,c.2.2.1,c.2.2.2)) else some (false,([]:List Int),([]:List Int),b.1)) else some (false,([]:List Int),([]:List Int),3)
theorem Gzz.mono:∀ a6 a7 a8 a9 b4 b5 k,LeO (Gzz.f k a6 a7 a8 a9 b4 b5) (Gzz.f (k+1) a6 a7 a8 a9 b4 b5):=by
 intro a6 a7 a8 a9 b4 b5 k;unfold Gzz.f;exact LeO.bind (Czw.mono _ k) (fun _=>LeO.ite (LeO.bind (Gzj.mono _ _ _ _ _ _ k) (fun _=>LeO.ite (LeO.bind (Fzz.mono _ _ _ k) (fun _=>LeO.refl _)) (LeO.refl _))) (LeO.refl _))
theorem Gzz.calls (k:Nat) (a6:Bool) (a7:Option Addr) (a8:Nat) (a9:List Int) (b4:Option Addr) (b5:Nat) (b6:List Int) (b7:Bool) (b8:Option Addr) (b9:Nat) (d6:List Int) (d7:Option Addr) (d8:Nat) (d9:List Int) (e6:Bool) (e7:List Int) (e8:List Int) (e9:Int) (w:World) (f4:cI w a7 a9) (f5:a9.length≤a8) (f6:cI w b4 b6) (f7:b6.length≤b5) (f8:cI w b8 d6) (f9:d6.length≤b9) (g4:cI w d7 d9) (g5:d9.length≤d8) (h:Gzz.f k a6 a9 b6 b7 d6 d9=some (e6,e7,e8,e9)) :
  Calls Try.prog 64 #[.agg #[.bool a6,.slice a7 a9.length a8,.slice b4 b6.length b5],.agg #[.bool b7,.slice b8 d6.length b9,.slice d7 d9.length d8]] w fun e w'=>∃ v1_ v2_:Value,e=.returned (.tuple #[.agg #[.bool e6,v1_,v2_],.int .i64 e9])∧rI w' w (oV v2_) v1_ e7∧rI w' w (oV v1_) v2_ e8∧bw w w':=by
 have hmf_:∀ (fn:Fn) (first cap:Array Value) (w:World),(Instr.makeFunc fn first cap).run Try.prog w=.ok (.func fn first cap) w:=fun _ _ _ _=>rfl
 have H1:=aM f4;have H2:=aM f6;have H3:=aM f8;have H4:=aM g4;have L1:=aM f5;have L2:=aM f7;have L3:=aM f9;have L4:=aM g5;clear f4 f6 f8 g4 f5 f7 f9 g5;unfold Gzz.f at h;rw[Option.bind_eq_some_iff] at h;obtain⟨tv,hv,h⟩:=h;have HV:=aM hv;clear hv;have cV:∀ W,W=(((w.alloc (.cells #[.bool a6,.slice a7 a9.length a8,.slice b4 b6.length b5] 33)).alloc (.cells #[.bool b7,.slice b8 d6.length b9,.slice d7 d9.length d8] 33)).alloc (.cells #[.bool false,.slice none 0 0,.slice none 0 0] 33)).alloc (.cells #[.bool a6,.slice a7 a9.length a8,.slice b4 b6.length b5,.bool b7,.slice b8 d6.length b9,.slice d7 d9.length d8] 33)→Calls Try.prog 62 #[.slice (some ⟨w.heap.size+1+1+1,0,none⟩) 2 2] W fun e w'=>e=.returned (.bool tv)∧w'.heap[w.heap.size]?=some (.cells #[.bool a6,.slice a7 a9.length a8,.slice b4 b6.length b5] 33 (0,0))∧w'.heap[w.heap.size+1]?=some (.cells #[.bool b7,.slice b8 d6.length b9,.slice d7 d9.length d8] 33 (0,0))∧w'.heap[w.heap.size+1+1]?=some (.cells #[.bool false,.slice none 0 0,.slice none 0 0] 33 (0,0))∧bw w w':=by
  intro W hW;have ha:W.heap[w.heap.size]?=some (.cells #[.bool a6,.slice a7 a9.length a8,.slice b4 b6.length b5] 33 (0,0)):=by subst hW;exact blk_alloc (blk_alloc (blk_alloc (blk_new w _) _) _) _
  have hb:W.heap[w.heap.size+1]?=some (.cells #[.bool b7,.slice b8 d6.length b9,.slice d7 d9.length d8] 33 (0,0)):=by subst hW;simpa using blk_alloc (blk_alloc (blk_new (w.alloc (.cells #[.bool a6,.slice a7 a9.length a8,.slice b4 b6.length b5] 33)) (.cells #[.bool b7,.slice b8 d6.length b9,.slice d7 d9.length d8] 33)) _) _
  have hc:W.heap[w.heap.size+1+1]?=some (.cells #[.bool false,.slice none 0 0,.slice none 0 0] 33 (0,0)):=by subst hW;simpa using blk_alloc (blk_new ((w.alloc (.cells #[.bool a6,.slice a7 a9.length a8,.slice b4 b6.length b5] 33)).alloc (.cells #[.bool b7,.slice b8 d6.length b9,.slice d7 d9.length d8] 33)) (.cells #[.bool false,.slice none 0 0,.slice none 0 0] 33)) _
  have hd:W.heap[w.heap.size+1+1+1]?=some (.cells #[.bool a6,.slice a7 a9.length a8,.slice b4 b6.length b5,.bool b7,.slice b8 d6.length b9,.slice d7 d9.length d8] 33 (0,0)):=by subst hW;simpa using blk_new (((w.alloc (.cells #[.bool a6,.slice a7 a9.length a8,.slice b4 b6.length b5] 33)).alloc (.cells #[.bool b7,.slice b8 d6.length b9,.slice d7 d9.length d8] 33)).alloc (.cells #[.bool false,.slice none 0 0,.slice none 0 0] 33)) (.cells #[.bool a6,.slice a7 a9.length a8,.slice b4 b6.length b5,.bool b7,.slice b8 d6.length b9,.slice d7 d9.length d8] 33)
  have hw:bw w W:=by subst hW;exact((((Below.refl _ w).alloc (Nat.le_refl _) _).alloc (by simp) _).alloc (by simp;omega) _).alloc (by simp;omega) _
  refine(Czw.calls k (some ⟨w.heap.size+1+1+1,0,none⟩) 2 [(⟨a6,a9,b6⟩:S33),(⟨b7,d6,d9⟩:S33)] tv W (rat_pair_C hd (Kd.C_below H1.out hw) L1.out (Kd.C_below H2.out hw) L2.out (Kd.C_below H3.out hw) L3.out (Kd.C_below H4.out hw) L4.out) (Nat.le_refl _) HV.out).mono ?_;rintro e w' ⟨rfl,g6⟩;exact⟨rfl,blk_below ha g6,blk_below hb g6,blk_below hc g6,hw.trans (g6.mono hw.size)⟩
 have CV:=aM cV;clear cV HV;cases tv with
 | false =>
  simp only[Bool.false_eq_true,if_false,Option.some.injEq,Prod.mk.injEq] at h;obtain⟨rfl,rfl,rfl,rfl⟩:=h;go_enter Try.func64,Try.ntmps64
  go_wp2_with (first|((with_reducible refine gate_callee (f:=62) rfl ?_);refine goesL_ (some 15) rfl rfl Try.func62 (by kernel_rfl) rfl #[.slice (some ⟨w.heap.size+1+1+1,0,none⟩) 2 2] rfl (by first|exact mA|(simp [Act.eval];done)) ?_;refine(CV.out _ rfl).mono ?_;rintro e g7 ⟨rfl,ha,hb,hc,hw⟩;refine⟨_,rfl,?_⟩;have HR:=aM hc;have HW:=aM hw;obtain⟨hczR_0,hczR_1,hczR_2,hfzR_0,hfzR_1,hfzR_2⟩:=bk3 HR;clear ha hb hc hw))
  refine rC (w.heap.size+1+1) 33 #[.bool false,.slice none 0 0,.slice none 0 0] (by refine blk_put (cs:=#[.bool false,.slice none 0 0,.slice none 0 0]) ?_ 2 _ rfl;refine blk_put (cs:=#[.bool false,.slice none 0 0,.slice none 0 0]) ?_ 1 _ rfl;refine blk_put (cs:=#[.bool false,.slice none 0 0,.slice none 0 0]) ?_ 0 _ rfl;exact HR.out) Try.underlying33 ?_
  exact⟨_,_,rfl,Kd.R_nil _ _ _ _ _,Kd.R_nil _ _ _ _ _,((HW.out.setCell (p:=⟨w.heap.size+1+1,0,none⟩) (by show _≤w.heap.size+1+1;omega) _).setCell (p:=⟨w.heap.size+1+1,1,none⟩) (by show _≤w.heap.size+1+1;omega) _).setCell (p:=⟨w.heap.size+1+1,2,none⟩) (by show _≤w.heap.size+1+1;omega) _⟩
 | true =>
  simp only[if_true] at h;rw[Option.bind_eq_some_iff] at h;obtain⟨⟨g8,ng,sm,q⟩,hp,h⟩:=h;have HP:=aM hp;clear hp;go_enter Try.func64,Try.ntmps64
  go_wp2_with (first|((with_reducible refine gate_callee (f:=62) rfl ?_);refine goesL_ (some 15) rfl rfl Try.func62 (by kernel_rfl) rfl #[.slice (some ⟨w.heap.size+1+1+1,0,none⟩) 2 2] rfl (by first|exact mA|(simp [Act.eval];done)) ?_;refine(CV.out _ rfl).mono ?_;rintro e g7 ⟨rfl,ha,hb,hc,hw⟩;refine⟨_,rfl,?_⟩;have HA:=aM ha;have HBb:=aM hb;have HR:=aM hc;have HW:=aM hw;obtain⟨hczA_0,hczA_1,hczA_2,hfzA_0,hfzA_1,hfzA_2⟩:=bk3 HA;have g9:∀ o1 o2 o3 o4,((((g7.alloc o1).alloc o2).alloc o3).alloc o4).cell? ⟨w.heap.size,0,none⟩=some (.bool a6):=fun o1 o2 o3 o4=>(blk_cell (blk_alloc (blk_alloc (blk_alloc (blk_alloc HA.out o1) o2) o3) o4) 0).trans rfl;clear ha hb hc hw))
  clear g9 hczA_0 hczA_1 hczA_2 hfzA_0 hfzA_1 hfzA_2 CV;have j3:Below g7.heap.size g7 (((((g7.alloc (.cells #[.slice none 0 0] 31)).alloc (.cells #[.slice none 0 0] 31)).alloc (.cells #[.slice none 0 0] 31)).alloc (.cells #[.slice none 0 0] 31)).alloc (.cells #[.bool a6] 4)):=(((((Below.refl _ g7).alloc (Nat.le_refl _) _).alloc (by simp) _).alloc (by simp;omega) _).alloc (by simp;omega) _).alloc (by simp;omega) _
  have gx5:(((((g7.alloc (.cells #[.slice none 0 0] 31)).alloc (.cells #[.slice none 0 0] 31)).alloc (.cells #[.slice none 0 0] 31)).alloc (.cells #[.slice none 0 0] 31)).alloc (.cells #[.bool a6] 4)).heap[g7.heap.size]?=some (.cells #[.slice none 0 0] 31 (0,0)):=blk_alloc (blk_alloc (blk_alloc (blk_alloc (blk_new g7 _) _) _) _) _;have gy5:(((((g7.alloc (.cells #[.slice none 0 0] 31)).alloc (.cells #[.slice none 0 0] 31)).alloc (.cells #[.slice none 0 0] 31)).alloc (.cells #[.slice none 0 0] 31)).alloc (.cells #[.bool a6] 4)).heap[g7.heap.size+1]?=some (.cells #[.slice none 0 0] 31 (0,0)):=by simpa using blk_alloc (blk_alloc (blk_alloc (blk_new (g7.alloc (.cells #[.slice none 0 0] 31)) (.cells #[.slice none 0 0] 31)) (.cells #[.slice none 0 0] 31)) (.cells #[.slice none 0 0] 31)) (.cells #[.bool a6] 4)
  have gq5:(((((g7.alloc (.cells #[.slice none 0 0] 31)).alloc (.cells #[.slice none 0 0] 31)).alloc (.cells #[.slice none 0 0] 31)).alloc (.cells #[.slice none 0 0] 31)).alloc (.cells #[.bool a6] 4)).heap[g7.heap.size+1+1]?=some (.cells #[.slice none 0 0] 31 (0,0)):=by simpa using blk_alloc (blk_alloc (blk_new ((g7.alloc (.cells #[.slice none 0 0] 31)).alloc (.cells #[.slice none 0 0] 31)) (.cells #[.slice none 0 0] 31)) (.cells #[.slice none 0 0] 31)) (.cells #[.bool a6] 4)
  have gs5:(((((g7.alloc (.cells #[.slice none 0 0] 31)).alloc (.cells #[.slice none 0 0] 31)).alloc (.cells #[.slice none 0 0] 31)).alloc (.cells #[.slice none 0 0] 31)).alloc (.cells #[.bool a6] 4)).heap[g7.heap.size+1+1+1]?=some (.cells #[.slice none 0 0] 31 (0,0)):=by simpa using blk_alloc (blk_new (((g7.alloc (.cells #[.slice none 0 0] 31)).alloc (.cells #[.slice none 0 0] 31)).alloc (.cells #[.slice none 0 0] 31)) (.cells #[.slice none 0 0] 31)) (.cells #[.bool a6] 4)
  have gn5:(((((g7.alloc (.cells #[.slice none 0 0] 31)).alloc (.cells #[.slice none 0 0] 31)).alloc (.cells #[.slice none 0 0] 31)).alloc (.cells #[.slice none 0 0] 31)).alloc (.cells #[.bool a6] 4)).heap[g7.heap.size+1+1+1+1]?=some (.cells #[.bool a6] 4 (0,0)):=by simpa using blk_new ((((g7.alloc (.cells #[.slice none 0 0] 31)).alloc (.cells #[.slice none 0 0] 31)).alloc (.cells #[.slice none 0 0] 31)).alloc (.cells #[.slice none 0 0] 31)) (.cells #[.bool a6] 4)
  have j4:=blk_below HA.out j3;have j5:=blk_below HBb.out j3;have j6:=blk_below HR.out j3;have hwb:=HW.out.trans (j3.mono HW.out.size);clear j3 HA HBb HR;have hsz:=HW.out.size;clear HW;generalize (((((g7.alloc (.cells #[.slice none 0 0] 31)).alloc (.cells #[.slice none 0 0] 31)).alloc (.cells #[.slice none 0 0] 31)).alloc (.cells #[.slice none 0 0] 31)).alloc (.cells #[.bool a6] 4))=wA at *;obtain⟨gn,hgn⟩:∃ g,g=g7.heap.size+1+1+1+1:=⟨_,rfl⟩;obtain⟨gs,hgs⟩:∃ g,g=g7.heap.size+1+1+1:=⟨_,rfl⟩;obtain⟨gq,hgq⟩:∃ g,g=g7.heap.size+1+1:=⟨_,rfl⟩;obtain⟨gy,hgy⟩:∃ g,g=g7.heap.size+1:=⟨_,rfl⟩;obtain⟨gx,hgx⟩:∃ g,g=g7.heap.size:=⟨_,rfl⟩;obtain⟨gr,hgr⟩:∃ g,g=w.heap.size+1+1:=⟨_,rfl⟩;obtain⟨gb,hgb⟩:∃ g,g=w.heap.size+1:=⟨_,rfl⟩;obtain⟨ga,hga⟩:∃ g,g=w.heap.size:=⟨_,rfl⟩;have hlr:=blk_lt j6;rw[← hgn] at gn5;rw[← hgs] at gs5;rw[← hgq] at gq5;rw[← hgy] at gy5;rw[← hgx] at gx5;rw[← hgr] at j6 hlr;rw[← hgb] at j5;rw[← hga] at j4;rw[← hgn,← hgs,← hgq,← hgy,← hgx,← hgr,← hgb];have OR:=aM (show gx < gy∧gy < gq∧gq < gs∧gs < gn∧w.heap.size≤gr∧w.heap.size≤gx∧gr≠gx∧gr≠gy∧gr≠gq∧gr≠gs∧gr≠gn∧gn < wA.heap.size from by have:=blk_lt gn5;refine⟨by omega,by omega,by omega,by omega,by omega,by omega,?_,?_,?_,?_,?_,this⟩ <;> first|exact blk_ne j6 gx5 (by decide)|exact blk_ne j6 gy5 (by decide)|exact blk_ne j6 gq5 (by decide)|exact blk_ne j6 gs5 (by decide)|exact blk_ne j6 gn5 (by decide))
  clear hgn hgs hgq hgy hgx hgr hgb hsz hlr;have BX:=aM (blk_drew gx5);have BY:=aM (blk_drew gy5);have BQ:=aM (blk_drew gq5);have BS:=aM (blk_drew gs5);have BN:=aM (blk_drew gn5);have BA:=aM (blk_drew j4);have BB:=aM (blk_drew j5);have BR:=aM (blk_drew j6);have HW:=aM hwb.drew;have LN:=aM (show gn < wA.drew.heap.size from OR.out.2.2.2.2.2.2.2.2.2.2.2)
  clear gx5 gy5 gq5 gs5 gn5 j4 j5 j6 hwb;rw[← hga];have HGA:=aM hga;clear hga;refine start_ (n:=19) (S:=fun W=>W.cell? ⟨ga,1,none⟩=some (.slice a7 a9.length a8)∧W.cell? ⟨ga,2,none⟩=some (.slice b4 b6.length b5)∧W.cell? ⟨gb,1,none⟩=some (.slice b8 d6.length b9)∧W.cell? ⟨gb,2,none⟩=some (.slice d7 d9.length d8)) (ds:=[]) (bA 19 0) (by kernel_rfl) rfl rfl ⟨(blk_cell BA.out 1).trans rfl,(blk_cell BA.out 2).trans rfl,(blk_cell BB.out 1).trans rfl,(blk_cell BB.out 2).trans rfl⟩ (fun hHeld=>?_)
  generalize wA.drew=wd at BX BY BQ BS BN BA BB BR HW LN hHeld ⊢;refine pV 0 20 (bA 19 1) ?_;refine take_ (i:=1) (N:=some 21) (v:=?_) (a':=?_) (bA 19 3) rfl rfl (by kernel_rfl) (fun _ _ _ h=>h) (Or.inl ⟨by rfl,?_⟩) hHeld ?_ ?_
  rotate_left
  ·intro w' j7;obtain⟨j8,j9,l5,l6⟩:=j7;go_simp
   with_reducible rfl
  rotate_left
  ·simp only[Act.put,sA,sZ,sC,i64_w,i32_w];rfl
  refine pV 2 22 (bA 19 7) ?_;refine take_ (i:=3) (N:=some 23) (v:=?_) (a':=?_) (bA 19 15) rfl rfl (by kernel_rfl) (fun _ _ _ h=>h) (Or.inl ⟨by rfl,?_⟩) hHeld ?_ ?_
  rotate_left
  ·intro w' j7;obtain⟨j8,j9,l5,l6⟩:=j7;go_simp
   with_reducible rfl
  rotate_left
  ·simp only[Act.put,sA,sZ,sC,i64_w,i32_w];rfl
  refine pV 5 25 (bA 19 47) ?_;refine take_ (i:=6) (N:=some 26) (v:=?_) (a':=?_) (bA 19 111) rfl rfl (by kernel_rfl) (fun _ _ _ h=>h) (Or.inl ⟨by rfl,?_⟩) hHeld ?_ ?_
  rotate_left
  ·intro w' j7;obtain⟨j8,j9,l5,l6⟩:=j7;go_simp
   with_reducible rfl
  rotate_left
  ·simp only[Act.put,sA,sZ,sC,i64_w,i32_w];rfl
  refine pV 7 27 (bA 19 239) ?_;refine take_ (i:=8) (N:=some 28) (v:=?_) (a':=?_) (bA 19 495) rfl rfl (by kernel_rfl) (fun _ _ _ h=>h) (Or.inl ⟨by rfl,?_⟩) hHeld ?_ ?_
  rotate_left
  ·intro w' j7;obtain⟨j8,j9,l5,l6⟩:=j7;go_simp
   with_reducible rfl
  rotate_left
  ·simp only[Act.put,sA,sZ,sC,i64_w,i32_w];rfl
  refine pV 10 30 (bA 19 1519) ?_;refine take_ (i:=11) (N:=some 31) (v:=?_) (a':=?_) (bA 19 3567) rfl rfl (by kernel_rfl) (fun _ _ _ h=>h) (Or.inl ⟨by rfl,?_⟩) hHeld ?_ ?_
  rotate_left
  ·intro w' j7;obtain⟨j8,j9,l5,l6⟩:=j7;go_simp
   with_reducible rfl
  rotate_left
  ·simp only[Act.put,sA,sZ,sC,i64_w,i32_w];rfl
  refine pV 12 32 (bA 19 7663) ?_;refine take_ (i:=13) (N:=some 33) (v:=?_) (a':=?_) (bA 19 15855) rfl rfl (by kernel_rfl) (fun _ _ _ h=>h) (Or.inl ⟨by rfl,?_⟩) hHeld ?_ ?_
  rotate_left
  ·intro w' j7;obtain⟨j8,j9,l5,l6⟩:=j7;go_simp
   with_reducible rfl
  rotate_left
  ·simp only[Act.put,sA,sZ,sC,i64_w,i32_w];rfl
  refine pV 15 35 (bA 19 48623) ?_;refine one_ (i:=4) (N:=some 24) (bA 19 48639) rfl rfl (by kernel_rfl) (by decide) (fun K hK=>?_)
  refine goes_ Try.func68 (by kernel_rfl) rfl #[.pointer (some ⟨gx,0,none⟩),.slice a7 a9.length a8,.slice d7 d9.length d8] (by rfl) rfl rfl mA ?_
  with_reducible refine(Ezk.calls gx _ _ _ _ _ _ _ (blk_lt BX.out)).mono ?_
  rintro e l7 ⟨l8,rfl,hT,hbs,hb⟩;refine⟨_,rfl,?_⟩;have G1:=aM (Nat.lt_of_lt_of_le LN.out hbs);have l9:=aM hT;replace BX:=kb BX hb;replace BY:=kb BY hb;replace BQ:=kb BQ hb;replace BS:=kb BS hb;replace BN:=kb BN hb;replace BA:=kb BA hb;replace BB:=kb BB hb;replace BR:=kb BR hb;replace HW:=aM (HW.out.trans (hb.mono HW.out.size));clear hT hbs hb;refine hK.out _ _ ⟨(blk_cell BA.out 1).trans rfl,(blk_cell BA.out 2).trans rfl,(blk_cell BB.out 1).trans rfl,(blk_cell BB.out 2).trans rfl⟩ (fun hHeld1=>?_)
  clear hK K;refine nm 24 ?_;refine one_ (i:=9) (N:=some 29) (bA 19 49151) rfl rfl (by kernel_rfl) (by decide) (fun K hK=>?_)
  refine goes_ Try.func68 (by kernel_rfl) rfl #[.pointer (some ⟨gy,0,none⟩),.slice b8 d6.length b9,.slice b4 b6.length b5] (by rfl) rfl rfl mA ?_
  with_reducible refine(Ezk.calls gy _ _ _ _ _ _ _ (blk_lt BY.out)).mono ?_
  rintro e m0 ⟨m4,rfl,hT,hbs,hb⟩;refine⟨_,rfl,?_⟩;have G2:=aM (Nat.lt_of_lt_of_le (blk_lt l9.out.fb) hbs);replace l9:=aM (l9.out.below hb);have m5:=aM hT;replace BX:=kb BX hb;replace BY:=kb BY hb;replace BQ:=kb BQ hb;replace BS:=kb BS hb;replace BN:=kb BN hb;replace BA:=kb BA hb;replace BB:=kb BB hb;replace BR:=kb BR hb;replace HW:=aM (HW.out.trans (hb.mono HW.out.size));clear hT hbs hb;refine hK.out _ _ ⟨(blk_cell BA.out 1).trans rfl,(blk_cell BA.out 2).trans rfl,(blk_cell BB.out 1).trans rfl,(blk_cell BB.out 2).trans rfl⟩ (fun hHeld2=>?_)
  clear hK K;refine nm 29 ?_;refine one_ (i:=14) (N:=some 34) (bA 19 65535) rfl rfl (by kernel_rfl) (by decide) (fun K hK=>?_)
  refine goes_ Try.func68 (by kernel_rfl) rfl #[.pointer (some ⟨gq,0,none⟩),.slice b4 b6.length b5,.slice d7 d9.length d8] (by rfl) rfl rfl mA ?_
  with_reducible refine(Ezk.calls gq _ _ _ _ _ _ _ (blk_lt BQ.out)).mono ?_
  rintro e m6 ⟨m7,rfl,hT,hbs,hb⟩;refine⟨_,rfl,?_⟩;have G3:=aM (Nat.lt_of_lt_of_le (blk_lt m5.out.fb) hbs);replace l9:=aM (l9.out.below hb);replace m5:=aM (m5.out.below hb);have m8:=aM hT;replace BX:=kb BX hb;replace BY:=kb BY hb;replace BQ:=kb BQ hb;replace BS:=kb BS hb;replace BN:=kb BN hb;replace BA:=kb BA hb;replace BB:=kb BB hb;replace BR:=kb BR hb;replace HW:=aM (HW.out.trans (hb.mono HW.out.size));clear hT hbs hb;refine hK.out _ _ ⟨(blk_cell BA.out 1).trans rfl,(blk_cell BA.out 2).trans rfl,(blk_cell BB.out 1).trans rfl,(blk_cell BB.out 2).trans rfl⟩ (fun hHeld3=>?_)
  clear hK K;refine nm 34 ?_;refine one_ (i:=16) (N:=some 36) (bA 19 131071) rfl rfl (by kernel_rfl) (by decide) (fun K hK=>?_)
  refine fun_lit_step ?hg (N:=36) ?hd (cs:=#[.func (.func (thkFn 96 l8).1) #[] (thkFn 96 l8).2,.func (.func (thkFn 96 m4).1) #[] (thkFn 96 m4).2,.func (.func (thkFn 96 m7).1) #[] (thkFn 96 m7).2,.func (.func 88) #[] #[.pointer (some ⟨ga,0,none⟩),.pointer (some ⟨gb,0,none⟩),.pointer (some ⟨gx,0,none⟩),.pointer (some ⟨gy,0,none⟩),.pointer (some ⟨gs,0,none⟩),.pointer (some ⟨gn,0,none⟩)]]) (t:=80) (n:=4) ?hr ?_;(case hd=>rfl);(case hg=>rfl);(case hr=>first|(go_simp;done)|(go_simp;rfl))
  intro gF m9 hbox hb;replace l9:=aM (l9.out.below hb);replace m5:=aM (m5.out.below hb);replace m8:=aM (m8.out.below hb);replace BX:=kb BX hb;replace BY:=kb BY hb;replace BQ:=kb BQ hb;replace BS:=kb BS hb;replace BN:=kb BN hb;replace BA:=kb BA hb;replace BB:=kb BB hb;replace BR:=kb BR hb;replace HW:=aM (HW.out.trans (hb.mono HW.out.size));have BF:=aM hbox;clear hbox hb;refine hK.out _ _ ⟨(blk_cell BA.out 1).trans rfl,(blk_cell BA.out 2).trans rfl,(blk_cell BB.out 1).trans rfl,(blk_cell BB.out 2).trans rfl⟩ (fun hHeld4=>?_)
  clear hK K;refine nm 36 ?_;refine one_ (i:=17) (N:=some 37) (bA 19 262143) rfl rfl (by kernel_rfl) (by decide) (fun K hK=>?_)
  refine goes_ Try.func67 (by kernel_rfl) rfl #[.slice (some ⟨gF,0,none⟩) 4 4] (by rfl) rfl rfl mA ?_
  have hkc:∀ (A:Option Addr) (l:List Int),cI w A l→∀ W_,Kept m9 W_ (AddS5 gx gy gq gs gn)→cI W_ A l:=fun A l hC W_ hk=>by
   have hle:=HW.out.size;have ho:=OR.out;exact C_blocks hC (fun i hi=>(hk.2 i (Nat.lt_of_lt_of_le hi hle) (by unfold AddS5;omega)).trans (HW.out.block i hi))
  refine(Gzj.calls k w.heap.size l8 m4 m7 ga gb gx gy gq gs gn a6 b7 _ _ _ _ a7 a8 a9 b4 b5 b6 b8 b9 d6 d7 d8 d9 g8 ng sm q gF 4 w m9 HW.out BF.out l9.out m5.out m8.out BA.out BB.out BX.out BY.out BQ.out BS.out BN.out OR.out.1 OR.out.2.1 OR.out.2.2.1 OR.out.2.2.2.1 G1.out G2.out G3.out OR.out.2.2.2.2.2.1 (hkc _ _ H1.out) L1.out (hkc _ _ H2.out) L2.out (hkc _ _ H3.out) L3.out (hkc _ _ H4.out) L4.out HP.out).mono ?_;rintro e n0 ⟨rfl,hF⟩;refine⟨_,rfl,?_⟩;have hnS:∀ i,i≠gx→i≠gy→i≠gq→i≠gs→i≠gn→¬ AddS5 gx gy gq gs gn i:=fun i g6 n7 n8 n9 o0 o8=>by unfold AddS5 at o8;omega
  have BA2:=aM (blk_kept BA.out hF.kept (hnS _ (blk_ne BA.out BX.out (by decide)) (blk_ne BA.out BY.out (by decide)) (blk_ne BA.out BQ.out (by decide)) (blk_ne BA.out BS.out (by decide)) (blk_ne BA.out BN.out (by decide))))
  have BB2:=aM (blk_kept BB.out hF.kept (hnS _ (blk_ne BB.out BX.out (by decide)) (blk_ne BB.out BY.out (by decide)) (blk_ne BB.out BQ.out (by decide)) (blk_ne BB.out BS.out (by decide)) (blk_ne BB.out BN.out (by decide))))
  have BR2:=aM (blk_kept BR.out hF.kept (hnS _ (blk_ne BR.out BX.out (by decide)) (blk_ne BR.out BY.out (by decide)) (blk_ne BR.out BQ.out (by decide)) (blk_ne BR.out BS.out (by decide)) (blk_ne BR.out BN.out (by decide))))
  have HW2:=aM hF.below;have HF:=aM hF.fin;have HGR:=aM (OR.out.2.2.2.2.1);have HSZ:=aM (Nat.le_trans HW.out.size hF.kept.1);have HS25:=aM HW.out.size;clear hF hkc hnS l9 m5 m8 BF BA BB BR BX BY BQ BS BN G1 G2 G3 HW LN;refine hK.out _ _ ⟨(blk_cell BA2.out 1).trans rfl,(blk_cell BA2.out 2).trans rfl,(blk_cell BB2.out 1).trans rfl,(blk_cell BB2.out 2).trans rfl⟩ (fun hHeld9=>?_)
  clear hK K hHeld9;refine nm 37 ?_;refine pV 18 11 (bA 19 524287) ?_;refine done_ (by kernel_rfl) ?_
  clear BA2 BB2;by_cases c:g8=0
  ·subst c;simp only[if_true] at h;rw[Option.bind_eq_some_iff] at h;obtain⟨⟨d1,d2,d3,d4⟩,hd,h⟩:=h;simp only[Option.some.injEq,Prod.mk.injEq] at h;obtain⟨rfl,rfl,rfl,rfl⟩:=h;obtain⟨vs,vq,hn,hs,hq⟩:=HF.out rfl;obtain⟨As,cs,es⟩:=Kd.R_slice hs.row;subst es;obtain⟨Aq,cq,eq⟩:=Kd.R_slice hq.row;subst eq;have BN:=aM hn;have BS:=aM hs.cell;have BQ:=aM hq.cell;have RS:=aM (Kd.R_reads' hs.row);have RQ:=aM (Kd.R_reads' hq.row);have HD:=aM hd;clear hn hs hq hd HF;obtain⟨hczN,hfzN⟩:=bk1 BN;obtain⟨hczS,hfzS⟩:=bk1 BS;obtain⟨hczQ,hfzQ⟩:=bk1 BQ;go_wp2_with (first|((with_reducible refine gc 79 rfl ?_);refine gC 79 (some 45) Try.func79 #[.bool ng,.slice As sm.length cs,.slice Aq q.length cq] ?_;(with_reducible refine(Fzz.calls k ng _ _ sm _ _ q _ _ _ _ _ ?_ ?_ ?_ ?_ HD.out).mono ?_);exact RS.out.2.2;exact RS.out.2.1;exact RQ.out.2.2;exact RQ.out.2.1;rintro e o9 ⟨v1_,v2_,rfl,p0,p4,hb⟩;refine⟨_,rfl,?_⟩;have p7:=aM (Kd.R_lower p0 HSZ.out);have p9:=aM (Kd.R_lower p4 HSZ.out);have BKR:=kb BR2 hb;have r5:=aM (HW2.out.trans (hb.mono HSZ.out));obtain⟨As1,cs1,es1⟩:=Kd.R_slice p7.out;subst es1;obtain⟨As2,cs2,es2⟩:=Kd.R_slice p9.out;subst es2;obtain⟨hczR_0,hczR_1,hczR_2,hfzR_0,hfzR_1,hfzR_2⟩:=bk3 BKR;clear hb p0 p4))
   refine rC gr 33 #[.bool d1,.slice As1 d2.length cs1,.slice As2 d3.length cs2] (by refine blk_put (cs:=#[.bool d1,.slice As1 d2.length cs1,.slice none 0 0]) ?_ 2 _ rfl;refine blk_put (cs:=#[.bool d1,.slice none 0 0,.slice none 0 0]) ?_ 1 _ rfl;refine blk_put (cs:=#[.bool false,.slice none 0 0,.slice none 0 0]) ?_ 0 _ rfl;exact BKR.out) Try.underlying33 ?_
   exact⟨_,_,by first|rfl|(simp;done),Kd.R_mono (Kd.R_far (p:=⟨gr,2,none⟩) (Kd.R_far (p:=⟨gr,1,none⟩) (Kd.R_far (p:=⟨gr,0,none⟩) (Kd.R_types p7.out BKR.out (by decide)) (fun _ hk=>hk.2) _) (fun _ hk=>hk.2) _) (fun _ hk=>hk.2) _) (fun _ hk=>hk.1),Kd.R_mono (Kd.R_far (p:=⟨gr,2,none⟩) (Kd.R_far (p:=⟨gr,1,none⟩) (Kd.R_far (p:=⟨gr,0,none⟩) (Kd.R_types p9.out BKR.out (by decide)) (fun _ hk=>hk.2) _) (fun _ hk=>hk.2) _) (fun _ hk=>hk.2) _) (fun _ hk=>hk.1),((r5.out.setCell (p:=⟨gr,0,none⟩) HGR.out _).setCell (p:=⟨gr,1,none⟩) HGR.out _).setCell (p:=⟨gr,2,none⟩) HGR.out _⟩
  ·simp only[if_neg c,Option.some.injEq,Prod.mk.injEq] at h;obtain⟨rfl,rfl,rfl,rfl⟩:=h;have r6:(g8 != 0)=true:=by simpa using c
   have l8:(g8 == 0)=false:=by simpa using c
   obtain⟨hczR_0,hczR_1,hczR_2,hfzR_0,hfzR_1,hfzR_2⟩:=bk3 BR2;go_wp2
   refine rC gr 33 #[.bool false,.slice none 0 0,.slice none 0 0] (by refine blk_put (cs:=#[.bool false,.slice none 0 0,.slice none 0 0]) ?_ 2 _ rfl;refine blk_put (cs:=#[.bool false,.slice none 0 0,.slice none 0 0]) ?_ 1 _ rfl;refine blk_put (cs:=#[.bool false,.slice none 0 0,.slice none 0 0]) ?_ 0 _ rfl;exact BR2.out) Try.underlying33 ?_
   exact⟨_,_,by first|rfl|(simp;done),Kd.R_nil _ _ _ _ _,Kd.R_nil _ _ _ _ _,((HW2.out.setCell (p:=⟨gr,0,none⟩) HGR.out _).setCell (p:=⟨gr,1,none⟩) HGR.out _).setCell (p:=⟨gr,2,none⟩) HGR.out _⟩


def Fzq.l0:Nat→List (S33)→Int→Int→Bool→List Int→List Int→Option (Bool × List Int × List Int × Int)
 | 0,_,_,_,_,_,_=>none
 | k+1,x21,x22,x23,x379000,x379001,x379002=>if x23 < x22 then(if 0≤x23 then(if x23 < (x21.length:Int) then((Gzz.f k x379000 x379001 x379002 ((rd_T33 x21 x23).f0) ((rd_T33 x21 x23).f1) ((rd_T33 x21 x23).f2)).bind fun bt381=>(if bt381.2.2.2=0 then(Fzq.l0 k x21 x22 (wrap64 (x23+1)) bt381.1 bt381.2.1 bt381.2.2.1) else(some (false,([]:List Int),([]:List Int),bt381.2.2.2)))) else(none)) else(none)) else(some (x379000,x379001,x379002,0))
def Fzq.f (k:Nat) (l0:List (S33)):Option (Bool × List Int × List Int × Int):=if(l0.length:Int) > 4096 then(some (false,([]:List Int),([]:List Int),8)) else((Czw.f k l0).bind fun t374=>(if t374=true then((Hzf.f).bind fun t375=>(Fzq.l0 k l0 (l0.length:Int) 0 false ([]:List Int) t375)) else(some (false,([]:List Int),([]:List Int),3))))
theorem Fzq.mono_l:∀ k,(∀ a6 a7 a8 a9 b4 b5,LeO (Fzq.l0 k a6 a7 a8 a9 b4 b5) (Fzq.l0 (k+1) a6 a7 a8 a9 b4 b5))
 | 0=>fun _ _ _ _ _ _ r h=>by simp [Fzq.l0] at h
 | k+1=>by
  have ih0:=Fzq.mono_l k
  ·intro a6 a7 a8 a9 b4 b5;unfold Fzq.l0;have i0:=@Gzz.mono;have i1:=@Czw.mono;exact mM
theorem Fzq.mono:∀ a6 k,LeO (Fzq.f k a6) (Fzq.f (k+1) a6):=by
 intro a6 k;have ih0:=Fzq.mono_l k;unfold Fzq.f;have i0:=@Gzz.mono;have i1:=@Czw.mono;exact mM
theorem Fzq.calls (k:Nat) (a6:Option Addr) (a7:Nat) (l0:List (S33)) (a8:Bool) (a9:List Int) (b4:List Int) (b5:Int) (w:World) (b6:Kd.C k33 w a6 l0.length l0) (b7:l0.length≤a7) (h:Fzq.f k l0=some (a8,a9,b4,b5)) :
  Calls Try.prog 36 #[.slice a6 l0.length a7] w fun e w'=>∃ v1_ v2_:Value,e=.returned (.tuple #[.agg #[.bool a8,v1_,v2_],.int .i64 b5])∧rI w' w (oV v2_) v1_ a9∧rI w' w (oV v1_) v2_ b4∧bw w w':=by
 have hu33:=Try.underlying33;have b8:=aM b6;have b9:=aM b7;clear b6 b7;have HB:=aM (Below.refl w.heap.size w);have H:(if(l0.length:Int) > 4096 then(some (false,([]:List Int),([]:List Int),8)) else((Czw.f k l0).bind fun d6=>(if d6=true then((Hzf.f).bind fun d7=>(Fzq.l0 k l0 (l0.length:Int) 0 false ([]:List Int) d7)) else(some (false,([]:List Int),([]:List Int),3)))))=some (a8,a9,b4,b5):=h
 clear h;have d8:=aM H;clear H;go_enter Try.func36,Try.ntmps36
 go_upto_if 9 with (first|((with_reducible refine gd 2 rfl ?_);refine bz 33 ?_;intro d9 hg e6 e7 hb;have e8:=gA w hg;replace HB:=bB hb;clear hb hg))
 have H:=d8.out;clear d8;by_cases c4:(l0.length:Int) > 4096
 ·rw[if_pos c4] at H;have f4:decide (4096 < (l0.length:Int))=true:=dE c4;have f5:decide (4096 < l0.length)=true:=dE (by omega)
  clear c4;(first|rw[f4]|(simp only[i64_w,i32_w];rw[f4])|skip)
  obtain⟨rfl,rfl,rfl,rfl⟩:=q4 H;obtain⟨f6,f7,f8,f9,g4,g5⟩:=bk3 e7;go_wp2
  refine rC d9 33 #[.bool false,.slice none 0 0,.slice none 0 0] (kQ e7) Try.underlying33 ?_
  exact⟨_,_,eW,nK,nK,pB⟩
 ·rw[if_neg c4] at H;have f4:decide (4096 < (l0.length:Int))=false:=decide_eq_false c4;have f5:decide (4096 < l0.length)=false:=decide_eq_false (by omega)
  clear c4;(first|rw[f4]|(simp only[i64_w,i32_w];rw[f4])|skip)
  obtain⟨d6,g6,H⟩:=bT H;(try dsimp only at H);have g7:=aM H;clear H;go_upto_if 14 with (first|((with_reducible refine gc 62 rfl ?_);refine gC 62 (some 16) Try.func62 #[.slice a6 l0.length a7] ?_;(with_reducible refine(Czw.calls k _ _ l0 d6 _ ?_ ?_ g6.out).mono ?_);exact cB b8;exact b9.out;rintro e g8 ⟨rfl,hb⟩;refine⟨_,rfl,?_⟩;replace e7:=kb e7 hb;replace HB:=bB hb;clear hb))
  have H:=g7.out;clear g7;by_cases c9:d6=true
  ·subst c9;rw[if_pos rfl] at H;obtain⟨d7,g9,H⟩:=bT H;(try dsimp only at H);have H':=aM H;clear H;go_wp2_with (first|((with_reducible refine gc 63 rfl ?_);refine gC 63 (some 19) Try.func63 #[] ?_;(with_reducible refine(Hzf.calls  d7 _ g9.out).mono ?_);rintro e j3 ⟨j4,rfl,j5,hb⟩;refine⟨_,rfl,?_⟩;have j6:=rL j5;replace e7:=kb e7 hb;replace HB:=bB hb;clear hb j5;obtain⟨j7,j8,rfl⟩:=Kd.R_slice j6.out)|((with_reducible refine gd 4 rfl ?_);refine bz 33 ?_;intro j9 hg l5 l6 hb;have l7:=gA w hg;have l9:=nl hg e7;have m0:=ng hg e7;replace j6:=rB j6 hb;replace e7:=kb e7 hb;replace HB:=bB hb;clear hb hg;have m4:=m0.out;have m5:=l9.out;obtain⟨m6,m7,m8,m9,n0,n7⟩:=bk3 l6))
   go_loopg [23] k (fun kq n8 w'=>∃ (n9:Int) (o0:Bool) (o8:Bool) (o9:List Int) (p0:List Int) (u379001:Value) (u379002:Value),n8=.int .i64 n9∧Aside0 (Fzq.l0 kq l0 (l0.length:Int) n9 o8 o9 p0=some (a8,a9,b4,b5))∧Aside0 (kq≤k)∧Aside0 (rI w' w (oV u379002) u379001 o9)∧Aside0 (rI w' w (oV u379001) u379002 p0)∧Aside0 (w'.heap[d9]?=some (.cells #[.bool o0,(.slice none 0 0),(.slice none 0 0)] 33 (0,0)))∧Aside0 (w'.heap[j9]?=some (.cells #[.bool o8,u379001,u379002] 33 (0,0)))∧Aside0 (bw w w'))
   case atStart=>exact⟨(0),(false),(false),(([]:List Int)),(d7),(.slice none 0 0),(.slice j7 d7.length j8),sD,H',⟨Nat.le_refl _⟩,⟨nK⟩,⟨by exact Kd.R_mono (rT j6 l6) (fun _ hk=>(by simp [Value.ownBlock]))⟩,⟨by exact kf e7 l9⟩,⟨by exact kQ l6⟩,⟨pB⟩⟩
   case round =>
    clear H';try clear p4
    obtain⟨n9,o0,o8,o9,p0,u379001,u379002,rfl,HA,p7,p9,r5,e7,l6,HB⟩:=hrel;cases gk with
    | zero=>exact absurd HA.out (by simp [Fzq.l0])
    | succ k1 =>
     have H:=HA.out;clear HA;simp only[Fzq.l0] at H;replace H:=iD H;rcases H with⟨r7,H⟩|⟨r7,H⟩
     ·(first|rw[r7]|(simp only[i64_w,i32_w];rw[r7])|skip)
      obtain⟨r8,H⟩:=iN H;obtain⟨r9,H⟩:=iN H;obtain⟨⟨t4,t5,t6,t7⟩,t8,H⟩:=bT H;(try dsimp only at H);have t9:=aM H;clear H;obtain⟨z3,z4,z5,z6,z7,z8,z9,B0,B5,B9,C0,C1,C2⟩:=at_T33 b8.out n9 (oE aS) (oE aS);cases z8
      replace z9:=hB HB z9;replace B0:=hB HB B0;replace B5:=hB HB B5;have C3:=aM C0;have C4:=aM B9;clear C0 B9;have C6:=aM C2;have C7:=aM C1;clear C2 C1;have C8:=eT (n9);have C9:=eU (n9) l0.length;go_upto_if 34 with (first|((with_reducible refine gd 6 rfl ?_);refine bz 33 ?_;intro D2 hg D3 D4 hb;have D5:=gA w hg;have D7:=nl hg e7;have D8:=ng hg e7;have D9:=nl hg l6;have E0:=ng hg l6;replace p9:=rB p9 hb;replace r5:=rB r5 hb;replace e7:=kb e7 hb;replace l6:=kb l6 hb;replace HB:=bB hb;clear hb hg;have E1:=D8.out;have E2:=D7.out;have E3:=E0.out;have E4:=D9.out;obtain⟨E5,E6,E7,E8,E9,F0⟩:=bk3 D4;have F2:=m0.out;have F3:=l9.out;obtain⟨F4,F5,F6,F7,F8,F9⟩:=bk3 l6;obtain⟨G5,G9,rfl⟩:=Kd.R_slice p9.out;obtain⟨H5,H6,rfl⟩:=Kd.R_slice r5.out)|((with_reducible refine gc 64 rfl ?_);refine gC 64 (some 30) Try.func64 #[.agg #[.bool o8,.slice G5 o9.length G9,.slice H5 p0.length H6],.agg #[.bool ((rd_T33 l0 n9).f0),.slice z4 ((rd_T33 l0 n9).f1).length z5,.slice z6 ((rd_T33 l0 n9).f2).length z7]] ?_;(with_reducible refine(Gzz.calls k1 o8 _ _ o9 _ _ p0 ((rd_T33 l0 n9).f0) _ _ ((rd_T33 l0 n9).f1) _ _ ((rd_T33 l0 n9).f2) t4 t5 t6 t7 _ ?_ ?_ ?_ ?_ ?_ ?_ ?_ ?_ t8.out).mono ?_);(focus(refine(Kd.R_reads' (e:=3) (base:=w.heap.size) (ok:=fun k_=>oN H5 p0.length H6 k_) (n:=o9.length) (c:=G9) ?_).2.2;exact(rT p9 D4)));exact lR p9;(focus(refine(Kd.R_reads' (e:=3) (base:=w.heap.size) (ok:=fun k_=>oN G5 o9.length G9 k_) (n:=p0.length) (c:=H6) ?_).2.2;exact(rT r5 D4)));exact lR r5;exact Kd.C_below C3.out pB;exact C4.out;exact Kd.C_below C6.out pB;exact C7.out;rintro e H7 ⟨H8,H9,rfl,j5,I0,hb⟩;refine⟨_,rfl,?_⟩;have I3:=rL (Kd.R_new' (Kd.R_new' j5 (Kd.R_lt (rT p9 D4))) (Kd.R_lt (rT r5 D4)));have I4:=rL (Kd.R_new' (Kd.R_new' I0 (Kd.R_lt (rT p9 D4))) (Kd.R_lt (rT r5 D4)));replace p9:=ro (rT p9 D4) hb j5 I0;replace r5:=ro (rT r5 D4) hb j5 I0;replace e7:=kF e7 D7 hb;replace l6:=kF l6 D9 hb;replace D4:=kP (o':=.cells #[.bool ((rd_T33 l0 n9).f0),.slice z4 ((rd_T33 l0 n9).f1).length z5,.slice z6 ((rd_T33 l0 n9).f2).length z7] 33 (0,0)) D4 hb;replace HB:=bB hb;clear hb j5 I0)|((with_reducible refine gd 7 rfl ?_);refine bz 33 ?_;intro I5 hg I6 I7 hb;have I8:=gA w hg;have J0:=nl hg e7;have J1:=ng hg e7;have J2:=nl hg l6;have J3:=ng hg l6;have J4:=nl hg D4;have J5:=ng hg D4;replace p9:=rB p9 hb;replace r5:=rB r5 hb;replace I3:=rB I3 hb;replace I4:=rB I4 hb;replace e7:=kb e7 hb;replace l6:=kb l6 hb;replace D4:=kb D4 hb;replace HB:=bB hb;clear hb hg;have J6:=J1.out;have J7:=J0.out;have J8:=J3.out;have J9:=J2.out;have K0:=J5.out;have K1:=J4.out;obtain⟨K2,K3,K4,K5,K6,K7⟩:=bk3 I7;obtain⟨K8,K9,rfl⟩:=Kd.R_slice I3.out;obtain⟨L0,L7,rfl⟩:=Kd.R_slice I4.out))
      have H:=t9.out;clear t9;replace H:=iE H;rcases H with⟨L9,M0,H⟩|⟨L8,L9,M0,H⟩
      ·(first|rw[L9]|(simp only[i64_w,i32_w];rw[L9])|skip)
       have H':=aM H;clear H;have M3:=J1.out;have M4:=J0.out;have M5:=J3.out;have M6:=J2.out;have M7:=J5.out;have M8:=J4.out;obtain⟨M9,N0,N1,N2,N3,N4⟩:=bk3 I7;have N5:=m0.out;have N6:=l9.out;have N7:=D9.out;have N8:=E0.out;obtain⟨N9,O0,O1,O2,O3,O4⟩:=bk3 l6;go_wp2
       go_roundg k1
       case measure=>have:=p7.out;omega
       case rel=>exact⟨(wrap64 (n9+1)),(o0),(t4),(t5),(t6),(.slice K8 t5.length K9),(.slice L0 t6.length L7),sD,H',⟨by have:=p7.out;omega⟩,⟨by exact rX (Kd.R_mono (Kd.R_far (p:=⟨j9,2,none⟩) (Kd.R_far (p:=⟨j9,1,none⟩) (Kd.R_far (p:=⟨j9,0,none⟩) (Kd.R_far (p:=⟨I5,2,none⟩) (Kd.R_far (p:=⟨I5,1,none⟩) (Kd.R_far (p:=⟨I5,0,none⟩) (Kd.R_types (Kd.R_types I3.out I7.out (by decide)) l6.out (by decide)) (fun _ hk=>hk.1.2) (.bool t4)) (fun _ hk=>hk.1.2) (.slice K8 t5.length K9)) (fun _ hk=>hk.1.2) (.slice L0 t6.length L7)) (fun _ hk=>hk.2) (.bool t4)) (fun _ hk=>hk.2) (.slice K8 t5.length K9)) (fun _ hk=>hk.2) (.slice L0 t6.length L7)) (fun _ hk=>hk.1.1.1.1))⟩,⟨by exact rX (Kd.R_mono (Kd.R_far (p:=⟨j9,2,none⟩) (Kd.R_far (p:=⟨j9,1,none⟩) (Kd.R_far (p:=⟨j9,0,none⟩) (Kd.R_far (p:=⟨I5,2,none⟩) (Kd.R_far (p:=⟨I5,1,none⟩) (Kd.R_far (p:=⟨I5,0,none⟩) (Kd.R_types (Kd.R_types I4.out I7.out (by decide)) l6.out (by decide)) (fun _ hk=>hk.1.2) (.bool t4)) (fun _ hk=>hk.1.2) (.slice K8 t5.length K9)) (fun _ hk=>hk.1.2) (.slice L0 t6.length L7)) (fun _ hk=>hk.2) (.bool t4)) (fun _ hk=>hk.2) (.slice K8 t5.length K9)) (fun _ hk=>hk.2) (.slice L0 t6.length L7)) (fun _ hk=>hk.1.1.1.1))⟩,⟨by exact kf2 e7 l9 J0⟩,⟨by refine bD ?_;refine blk_put (cs:=#[.bool t4,.slice K8 t5.length K9,.slice H5 p0.length H6]) ?_ 2 _ rfl;refine bD ?_;refine blk_put (cs:=#[.bool t4,.slice G5 o9.length G9,.slice H5 p0.length H6]) ?_ 1 _ rfl;refine bD ?_;refine blk_put (cs:=#[.bool o8,.slice G5 o9.length G9,.slice H5 p0.length H6]) ?_ 0 _ rfl;refine bD ?_;refine blk_far ?_ J2.out _;refine bD ?_;refine blk_far ?_ J2.out _;refine bD ?_;refine blk_far ?_ J2.out _;(with_reducible repeat(first|refine blk_drewN ?_ _|refine blk_drew ?_|refine blk_alloc ?_ _));exact l6.out⟩,⟨pB⟩⟩
      ·(first|rw[L9]|(simp only[i64_w,i32_w];rw[L9])|skip)
       obtain⟨rfl,rfl,rfl,rfl⟩:=q4 H;have O5:=l9.out;have O6:=m0.out;have O7:=D7.out;have O8:=D8.out;have O9:=J0.out;have P0:=J1.out;obtain⟨P3,P4,P5,P6,P7,P8⟩:=bk3 e7;go_wp2
       refine rC d9 33 #[.bool false,.slice none 0 0,.slice none 0 0] (by refine bD ?_;refine blk_put (cs:=#[.bool false,.slice none 0 0,.slice none 0 0]) ?_ 2 _ rfl;refine bD ?_;refine blk_put (cs:=#[.bool false,.slice none 0 0,.slice none 0 0]) ?_ 1 _ rfl;refine bD ?_;refine blk_put (cs:=#[.bool o0,.slice none 0 0,.slice none 0 0]) ?_ 0 _ rfl;refine bD ?_;refine blk_far ?_ J0.out _;refine bD ?_;refine blk_far ?_ J0.out _;refine bD ?_;refine blk_far ?_ J0.out _;(with_reducible repeat(first|refine blk_drewN ?_ _|refine blk_drew ?_|refine blk_alloc ?_ _));exact e7.out) Try.underlying33 ?_
       exact⟨_,_,eW,nK,nK,pB⟩
     ·(first|rw[r7]|(simp only[i64_w,i32_w];rw[r7])|skip)
      obtain⟨rfl,rfl,rfl,rfl⟩:=q4 H;have P9:=m0.out;have Q0:=l9.out;obtain⟨Q1,Q2,Q3,Q4,Q5,Q6⟩:=bk3 l6;obtain⟨Q7,Q8,Q9,R0,R1,R2⟩:=bk3 e7;obtain⟨R3,R4,rfl⟩:=Kd.R_slice p9.out;obtain⟨R5,R6,rfl⟩:=Kd.R_slice r5.out;go_wp2
      refine rC d9 33 #[.bool o8,.slice R3 o9.length R4,.slice R5 p0.length R6] (kQ e7) Try.underlying33 ?_
      exact⟨_,_,eW,by exact Kd.R_mono (rT p9 e7) (fun _ hk=>hk),by exact Kd.R_mono (rT r5 e7) (fun _ hk=>hk),pB⟩
  ·obtain rfl:=bN c9;rw[if_neg nF] at H
   obtain⟨rfl,rfl,rfl,rfl⟩:=q4 H;obtain⟨R7,R8,R9,U0,U1,U2⟩:=bk3 e7;go_wp2
   refine rC d9 33 #[.bool false,.slice none 0 0,.slice none 0 0] (kQ e7) Try.underlying33 ?_
   exact⟨_,_,eW,nK,nK,pB⟩

end Go.Proofs.Ytbnpcplckcipfaa.Print
