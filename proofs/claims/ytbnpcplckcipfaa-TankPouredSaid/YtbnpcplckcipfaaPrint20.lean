import Derived.Test.YtbnpcplckcipfaaPrint0
import Derived.Test.YtbnpcplckcipfaaPrint17
namespace Go.Proofs.Ytbnpcplckcipfaa.Print
open Go.RowKit Go.Proofs.YtbnpcplckcipfaaW.PrintWords Go.Proofs.YtbnpcplckcipfaaW.PrintLast Go.Proofs.YtbnpcplckcipfaaW.PrintMore
attribute [local go_sem] dF dG eB eD dm dn dH dI
set_option linter.unusedVariables false
set_option maxRecDepth 100000
set_option maxHeartbeats 8000000
set_option linter.unusedSimpArgs false

theorem zK {P:Program} {ops:Array Oper} {Q:Exit→Act→World→Prop} {rest:List Oper} {oi:Oper} {a:Act} {w:World} (N:Option Tmp) (hd:oi.dst=N) (hg:oi.guard=none) {f:FuncId} {caps:Array Value} {fn:Func} {c:Operand} {ts:Array TypeId} (hf:P.funcs[f]?=some fn) (hname:(fn.name == "runtime.NumGoroutine")=false) (hb:fn.body.isSome=true)
  (hop:oi.op=.call { callee:=.value c,args:=#[],argTypes:=ts }) (hc:a.eval c=.func (.func f) #[] caps)
  (h:Calls P f caps w fun e w'=>∃ v,e=.returned v∧wpList P ops Q rest (a.put N v) w'):wpList P ops Q (oi :: rest) a w:=by
 refine wpList_plain hg fun K hK=>?_
 have he:=mZ hf hname hb caps w;have hrun:(execOp a.eval oi).run P w=.ok (.enter f caps) w:=by
  unfold execOp;simp [hop,resolve,hc,Deferred.ofValue,invoke,he]
 unfold Oper.wp;rw[hrun,Oper.upon_enter];refine h.mono fun e w'' hh=>?_
 obtain⟨v,rfl,hk⟩:=hh;subst hd;exact hK _ _ hk
/-- What 'products' does with functions one after the other. -/
structure uM (xs:List (Nat × Array Value)) (ad:Addr) (I:Nat→World→Prop) (Q:Int→World→Prop):Prop where
 cell:∀ j W,I j W→∀ i x,xs[i]?=some x→W.cell? (ad.add i)=some (.func (.func x.1) #[] x.2)
 step:∀ j W x,I j W→xs[j]?=some x→(∃ fn,Try.prog.funcs[x.1]?=some fn∧(fn.name == "runtime.NumGoroutine")=false∧fn.body.isSome=true)∧Calls Try.prog x.1 x.2 W fun e W'=>∃ r:Int,e=.returned (.int .i64 r)∧(r=0→I (j+1) W')∧(r≠0→Q r W')
 done:∀ W,I xs.length W→Q 0 W
theorem Hzp.calls (xs:List (Nat × Array Value)) (ad:Addr) (c:Nat) (w:World) (I:Nat→World→Prop) (Q:Int→World→Prop) (hS:uM xs ad I Q) (a6:I 0 w) (hn:xs.length < 4611686018427387904) :
  Calls Try.prog 67 #[.slice (some ad) xs.length c] w fun e w'=>∃ r:Int,e=.returned (.int .i64 r)∧Q r w':=by
 have HS:=aM hS;have H0:=aM a6;have HN:=aM hn;clear hS a6 hn;go_enter Try.func67,Try.ntmps67
 go_wp2
 go_loopg [8] (xs.length+1) (fun kq a7 w'=>∃ (j_:Nat),a7=.int .i64 (j_:Int)∧ae (j_+kq=xs.length+1∧0 < kq)∧ae (I j_ w'))
 case atStart=>exact⟨0,rfl,⟨by omega,by omega⟩,H0⟩
 case round =>
  obtain⟨j_,rfl,HJ,HI⟩:=hrel;cases gk with
  | zero=>exact absurd HJ.out.2 (by omega)
  | succ k1 =>
   by_cases c5:(j_:Int) < (xs.length:Int)
   ·have a8:=dE c5;have a9:decide (j_ < xs.length)=true:=dE (by omega)
    obtain⟨x_,hx_⟩:∃ x_,xs[j_]?=some x_:=⟨xs[j_]'(by omega),List.getElem?_eq_getElem (by omega)⟩
    have b4:=aM c5;clear c5;have b5:=HS.out.cell j_ wr HI.out j_ x_ hx_;have HX:=aM hx_;clear hx_;have b6:(0:Int)≤(j_:Int):=by omega
    obtain⟨⟨fn_,hf_,hn_,hb_⟩,hC_⟩:=HS.out.step j_ wr x_ HI.out HX.out;have HF:=aM hf_;have HNM:=aM hn_;have HBD:=aM hb_;have HC:=aM hC_;clear hf_ hn_ hb_ hC_;go_wp2_with (first|(refine zK (some 13) rfl rfl (f:=x_.1) (caps:=x_.2) HF.out HNM.out HBD.out rfl (by first|rfl|(simp [Act.eval];done)) ?_;refine HC.out.mono ?_;rintro e b7 ⟨r_,rfl,b8,b9⟩;refine⟨_,rfl,?_⟩;have d6:=aM b8;have d7:=aM b9;clear b8 b9))
    ·rename_i hr_
     go_ret
     exact⟨r_,rfl,d7.out (by simpa using hr_)⟩
    ·rename_i hr_
     go_roundg k1
     case measure=>omega
     case rel =>
      refine⟨j_+1,?_,⟨by have:=HJ.out;omega,by have:=HJ.out;have:=b4.out;omega⟩,⟨d6.out (by simpa using hr_)⟩⟩
      have e_:wrap64 ((j_:Int)+1)=((j_+1:Nat):Int):=by have:=HN.out;have:=b4.out;unfold wrap64;omega
      rw[e_]
    all_goals (exfalso;have:=b4.out;omega)
   ·have a8:decide ((j_:Int) < (xs.length:Int))=false:=decide_eq_false c5;have a9:decide (j_ < xs.length)=false:=decide_eq_false (by omega)
    have b4:=aM c5;clear c5;go_wp2
    go_ret
    refine⟨_,rfl,HS.out.done _ ?_⟩;have e_:j_=xs.length:=by have:=b4.out;have:=HJ.out;omega
    rw[← e_];exact HI.out

/-- A function value that computes a product: where it lies,and what it has captured. -/
structure Thk (W:World) (b gp:Nat) (A:Option Addr) (n c:Nat) (A':Option Addr) (n' c':Nat):Prop where
 tp:W.heap[b]?=some (.cells #[.pointer (some ⟨gp,0,none⟩)] 82 (0,0))
 fa:W.heap[b+1]?=some (.cells #[.slice A n c] 31 (0,0))
 fb:W.heap[b+2]?=some (.cells #[.slice A' n' c'] 31 (0,0))
 lt:gp < b
theorem Thk.below {W W1:World} {b gp n c n' c':Nat} {A A':Option Addr} (h:Thk W b gp A n c A' n' c') (hb:Below W.heap.size W W1):Thk W1 b gp A n c A' n' c' :=
 ⟨(hb.block _ (Array.getElem?_eq_some_iff.1 h.tp).1).trans h.tp,(hb.block _ (Array.getElem?_eq_some_iff.1 h.fa).1).trans h.fa,(hb.block _ (Array.getElem?_eq_some_iff.1 h.fb).1).trans h.fb,h.lt⟩
theorem Thk.keep {W W1:World} {b gp n c n' c':Nat} {A A':Option Addr} (h:Thk W b gp A n c A' n' c') (a6:W1.heap[b]?=W.heap[b]?) (a7:W1.heap[b+1]?=W.heap[b+1]?) (a8:W1.heap[b+2]?=W.heap[b+2]?):Thk W1 b gp A n c A' n' c' :=
 ⟨a6.trans h.tp,a7.trans h.fa,a8.trans h.fb,h.lt⟩
def ed (f b:Nat):Nat × Array Value:=(f,#[.pointer (some ⟨b+1,0,none⟩),.pointer (some ⟨b+2,0,none⟩),.pointer (some ⟨b,0,none⟩)])
theorem Ezz.calls (gp:Nat) (A:Option Addr) (n c:Nat) (A':Option Addr) (n' c':Nat) (w:World) (hgp:gp < w.heap.size) :
  Calls Try.prog 68 #[.pointer (some ⟨gp,0,none⟩),.slice A n c,.slice A' n' c'] w fun e w'=>∃ b,e=.returned (.func (.func (ed 96 b).1) #[] (ed 96 b).2)∧Thk w' b gp A n c A' n' c'∧w.heap.size≤b∧bw w w':=by
 have hmf_:∀ (fn:Fn) (first cap:Array Value) (w:World),(Instr.makeFunc fn first cap).run Try.prog w=.ok (.func fn first cap) w:=fun _ _ _ _=>rfl
 have HGP:=aM hgp;clear hgp;go_enter Try.func68,Try.ntmps68
 go_wp2
 go_ret
 refine⟨w.heap.size,rfl,⟨?_,?_,?_,HGP.out⟩,Nat.le_refl _,?_⟩
 ·exact aK (aK (gL w _) _) _
 ·have:=aK (gL (w.alloc (Obj.cells #[Value.pointer (some { block:=gp,off:=0 })] 82)) (Obj.cells #[.slice A n c] 31)) (.cells #[.slice A' n' c'] 31);simpa using this
 ·have:=gL (((w.alloc (Obj.cells #[Value.pointer (some { block:=gp,off:=0 })] 82)).alloc (Obj.cells #[Value.slice A n c] 31))) (Obj.cells #[.slice A' n' c'] 31);simpa using this
 ·exact(((Below.refl _ _).alloc (Nat.le_refl _) _).alloc (by simp) _).alloc (by simp;omega) _
/-- The step that computes a product. -/
theorem Gzm.calls (k b gp:Nat) (A:Option Addr) (c:Nat) (l:List Int) (A':Option Addr) (c':Nat) (l':List Int) (u:Value) (a6:List Int) (a7:Int) (w:World) (hT:Thk w b gp A l.length c A' l'.length c') (hp:w.heap[gp]?=some (.cells #[u] 31 (0,0)))
  (a8:cI w A l) (a9:l.length≤c) (b4:Kd.C (Kd.int .i64) w A' l'.length l') (b5:l'.length≤c') (h:Czj.f k l l'=some (a6,a7)) :
  Calls Try.prog (ed 96 b).1 (ed 96 b).2 w fun e w'=>∃ (b6:World) (v:Value),e=.returned (.int .i64 a7)∧w'=b6.setCell ⟨gp,0,none⟩ v∧rI b6 w (fun _=>True) v a6∧bw w b6:=by
 have HA:=aM h;have b7:=aM a8;have b8:=aM a9;have b9:=aM b4;have d6:=aM b5;have HT:=aM hT;have HP:=aM hp;have HB:=aM (Below.refl w.heap.size w);have d7:=(af hT.tp 0).trans rfl;have d8:=(af hT.fa 0).trans rfl;have d9:=(af hT.fb 0).trans rfl;clear h a8 a9 b4 b5 hT hp;show Calls Try.prog 96 #[.pointer (some ⟨b+1,0,none⟩),.pointer (some ⟨b+2,0,none⟩),.pointer (some ⟨b,0,none⟩)] w _
 go_enter Try.func96,Try.ntmps96
 go_wp2_with (first|((with_reducible refine gc 97 rfl ?_);refine gC 97 (some 9) Try.func97 #[.slice A l.length c,.slice A' l'.length c'] ?_;(with_reducible refine(Czj.calls k _ _ l _ _ l' a6 a7 _ ?_ ?_ ?_ ?_ HA.out).mono ?_);exact b7.out;exact b8.out;exact b9.out;exact d6.out;rintro e e6 ⟨e7,rfl,f6,hb⟩;refine⟨_,rfl,?_⟩;obtain⟨Ao_,co_,eo_⟩:=Kd.aj f6;subst eo_;have HO:=aM f6;have f7:=kb HP hb;have f8:=(af (kB (aM HT.out.tp) hb) 0).trans rfl;have g5:=(af f7.out 0).trans rfl;have g8:=bO f7.out 0;replace HB:=aM hb;clear hb f6))
 go_ret
 exact⟨_,_,rfl,rfl,HO.out,HB.out⟩
/-- What the pure text tells of a step's making: nothing. -/
def Ezz.f (_:Unit) (_ _:List Int):Option Int:=some 0
theorem jf {P:Program} {ops:Array Oper} {Q:Exit→Act→World→Prop} {o:Oper} {a:Act} {Kc:Act→World→Prop} {W:World} (hw:Region.wanted o (yielded ops a.tmps)=true) {N:Tmp} (_hd:o.dst=some N) {cs:Array Value} {t:TypeId} {n:Nat}
  (hrun:(execOp a.eval o).run P W=.ok (.value (.slice (some ⟨W.heap.size,0,none⟩) n n)) (W.alloc (.cells cs t (0,0))))
  (h:∀ g a6,a6.heap[g]?=some (.cells cs t (0,0))→Below W.heap.size W a6→Kc (a.put o.dst (.slice (some ⟨g,0,none⟩) n n)) a6):if Region.wanted o (yielded ops a.tmps)=true then Oper.wp P o a W Kc Q else Kc (a.put o.dst undef) W :=
 pM hw hrun (h _ _ (gL W _) (dV (Below.refl _ _) _))
theorem gN {W W_:World} {e base n c:Nat} {ok S:Nat→Prop} {A:Option Addr} {xs:List Int} (h:Kd.V (Kd.int .i64) e W base ok (.slice A n c) xs) (hk:Kept W W_ S) (hne:∀ k,ok k→¬ S k):Kd.C (Kd.int .i64) W_ A n xs:=by
 obtain⟨hn,_,_⟩:=Kd.aW h;have a6:=Kd.aW (Kd.CO h (fun k hk1 hk2=>hk.2 k hk2 (hne k hk1)))
 rw[hn];exact a6.2.2
theorem C_V {w:World} {e base n c:Nat} {A:Option Addr} {xs:List Int} (h:Kd.C (Kd.int .i64) w A n xs) (hc:n≤c):Kd.V (Kd.int .i64) e w base (fun _=>True) (.slice A n c) xs:=by
 have hn:=h.1;subst hn;refine⟨A,c,rfl,hc,fun W' hW=>⟨h.1,h.2.1,fun hp=>?_⟩⟩
 obtain⟨ad,a6,a7⟩:=h.2.2 hp;refine⟨ad,a6,fun j q hj=>?_⟩
 obtain⟨cs,a8,a9,b4⟩:=a7 j q hj;refine⟨cs,a8,a9,fun i u hu=>?_⟩
 have b5:=b4 i u hu;have b6:=hW _ trivial (World.block_lt_of_cell? w _ b5);rw[← b5];simp only[World.cell?,b6]
/-- What two steps one after the other come to. -/
def Dzq.f (k:Nat) (l1 l1' l2 l2':List Int):Option (Int × List Int × List Int):=(Czj.f k l1 l1').bind fun x=>if x.2=0 then(Czj.f k l2 l2').bind fun y=>some (y.2,x.1,y.1) else some (x.2,x.1,([]:List Int))
theorem Dzq.mono:∀ a6 a7 a8 a9 k,LeO (Dzq.f k a6 a7 a8 a9) (Dzq.f (k+1) a6 a7 a8 a9):=by
 intro a6 a7 a8 a9 k;unfold Dzq.f;exact LeO.bind (Czj.mono _ _ k) (fun _=>LeO.ite (LeO.bind (Czj.mono _ _ k) (fun _=>LeO.refl _)) (LeO.refl _))
theorem iB {w a6:World} {S:Nat→Prop} {B g:Nat} (h:Below B w a6) (hB:w.heap.size≤B) (hg:S g) (v:Value):Kept w (a6.setCell ⟨g,0,none⟩ v) S :=
 Kept.setCell (p:=⟨g,0,none⟩) ⟨h.size,fun i hi _=>h.block i (Nat.lt_of_lt_of_le hi hB)⟩ (.inl hg) v
theorem kept_trans {a b c:World} {S:Nat→Prop} (h:Kept a b S) (h':Kept b c S):Kept a c S :=
 ⟨Nat.le_trans h.1 h'.1,fun i hi hn=>(h'.2 i (Nat.lt_of_lt_of_le hi h.1) hn).trans (h.2 i hi hn)⟩
/-- What two products leave. -/
structure zL (w0 w W:World) (gp gq:Nat) (vp vq:Value) (x y:List Int):Prop where
 p:W.heap[gp]?=some (.cells #[vp] 31 (0,0))
 q:W.heap[gq]?=some (.cells #[vq] 31 (0,0))
 rp:rI W w0 (fun k_=>w.heap.size≤k_∧some k_≠vq.ownBlock) vp x
 rq:rI W w0 (fun k_=>w.heap.size≤k_∧some k_≠vp.ownBlock) vq y
 below:bw w0 W
 kept:Kept w W (fun k_=>k_=gp∨k_=gq)
theorem iG {B:Nat} {a6 w a7:World} {g:Nat} (h:Below B a6 w) (hB:B≤w.heap.size) (a8:bw w a7) (hg:B≤g) (v:Value):Below B a6 (a7.setCell ⟨g,0,none⟩ v) :=
 Below.setCell (aX h hB a8) hg v
set_option maxHeartbeats 2000000 in
theorem Dzq.calls (k a6 a7 gp gq:Nat) (a8:Option Addr) (a9:Nat) (l1:List Int) (b4:Option Addr) (b5:Nat) (b6:List Int) (b7:Option Addr) (c2:Nat) (l2:List Int) (b8:Option Addr) (b9:Nat) (d6:List Int) (d7:Int) (d8 d9:List Int) (g cg:Nat) (e6 w:World) (hB:Below e6.heap.size e6 w)
  (hg:w.heap[g]?=some (.cells #[.func (.func (ed 96 a6).1) #[] (ed 96 a6).2,.func (.func (ed 96 a7).1) #[] (ed 96 a7).2] 80 (0,0)))
  (e7:Thk w a6 gp a8 l1.length a9 b4 b6.length b5) (f6:Thk w a7 gq b7 l2.length c2 b8 d6.length b9) (hp:w.heap[gp]?=some (.cells #[.slice none 0 0] 31 (0,0))) (hq:w.heap[gq]?=some (.cells #[.slice none 0 0] 31 (0,0))) (hne:gp≠gq) (hgp:e6.heap.size≤gp) (hgq:e6.heap.size≤gq) (f7:gp < a7) (f8:gq < a6)
  (g5:∀ W_,Kept w W_ (fun k_=>k_=gp∨k_=gq)→cI W_ a8 l1) (g8:l1.length≤a9) (g9:∀ W_,Kept w W_ (fun k_=>k_=gp∨k_=gq)→cI W_ b4 b6) (j3:b6.length≤b5)
  (j4:∀ W_,Kept w W_ (fun k_=>k_=gp∨k_=gq)→cI W_ b7 l2) (j5:l2.length≤c2) (j6:∀ W_,Kept w W_ (fun k_=>k_=gp∨k_=gq)→cI W_ b8 d6) (j7:d6.length≤b9)
  (h:Dzq.f k l1 b6 l2 d6=some (d7,d8,d9)) :
  Calls Try.prog 67 #[.slice (some ⟨g,0,none⟩) 2 cg] w fun e w'=>e=.returned (.int .i64 d7)∧∃ vp vq:Value,zL e6 w w' gp gq vp vq d8 d9:=by
 have hfn:∃ fn,Try.prog.funcs[96]?=some fn∧(fn.name == "runtime.NumGoroutine")=false∧fn.body.isSome=true:=⟨_,Try.func96,by kernel_rfl,rfl⟩
 have hgl:=aV hg;have hgne:g≠gp∧g≠gq:=⟨dh hg hp (by decide),dh hg hq (by decide)⟩
 have hK1:∀ (j8:World) (v:Value),bw w j8→Kept w (j8.setCell ⟨gp,0,none⟩ v) (fun k_=>k_=gp∨k_=gq):=fun j8 v hb=>iB hb (Nat.le_refl _) (.inl rfl) v
 have hfar:∀ (W:World) (i:Nat) (o:Obj),Kept w W (fun k_=>k_=gp∨k_=gq)→i≠gp→i≠gq→w.heap[i]?=some o→W.heap[i]?=some o:=fun W i o hk j9 l5 ho=>eF ho hk (fun e=>e.elim j9 l5)
 have hBs:=hB.size;let I:Nat→World→Prop:=fun j W=>Kept w W (fun k_=>k_=gp∨k_=gq)∧match j with
  | 0=>W=w
  | 1=>∃ (j8:World) (v:Value) (x:List Int),W=j8.setCell ⟨gp,0,none⟩ v∧Czj.f k l1 b6=some (x,0)∧rI j8 w (fun _=>True) v x∧bw w j8
  | _=>∃ (vp vq:Value) (x y:List Int),zL e6 w W gp gq vp vq x y∧Dzq.f k l1 b6 l2 d6=some (0,x,y)
 let Qr:Int→World→Prop:=fun r W=>∃ (vp vq:Value) (x y:List Int),zL e6 w W gp gq vp vq x y∧Dzq.f k l1 b6 l2 d6=some (r,x,y)
 have hS:uM [ed 96 a6,ed 96 a7] ⟨g,0,none⟩ I Qr:=by
  refine⟨fun j W hI i x hx=>?_,fun j W x hI hx=>?_,fun W hI=>hI.2⟩
  ·rw[add_plain];have j9:=hfar W g _ hI.1 hgne.1 hgne.2 hg;rw[af j9 i];match i,hx with
   | 0,hx=>cases hx;rfl
   | 1,hx=>cases hx;rfl
   | i+2,hx=>simp at hx
  ·match j,hx,hI with
   | 0,hx,hI =>
    cases hx
    obtain⟨hk,hw⟩:=hI;cases hw
    refine⟨hfn,?_⟩;unfold Dzq.f at h;rw[Option.bind_eq_some_iff] at h;obtain⟨⟨x,l6⟩,hm,h⟩:=h;refine(Gzm.calls k a6 gp a8 a9 l1 b4 b5 b6 _ x l6 w e7 hp (g5 w hk) g8 (g9 w hk) j3 hm).mono ?_;rintro e W' ⟨j8,v,rfl,rfl,hR,hb⟩;refine⟨l6,rfl,fun l7=>⟨hK1 j8 v hb,j8,v,x,rfl,l7 ▸ hm,hR,hb⟩,fun l7=>?_⟩
    have hp1:j8.heap[gp]?=some (.cells #[.slice none 0 0] 31 (0,0)):=(hb.block gp (aV hp)).trans hp;have hq1:j8.heap[gq]?=some (.cells #[.slice none 0 0] 31 (0,0)):=(hb.block gq (aV hq)).trans hq;refine⟨v,.slice none 0 0,x,[],⟨au hp1 0 v rfl,av hq1 (Ne.symm hne) v,?_,Kd.iX _ _ _ _ _,iG hB hBs hb hgp v,hK1 j8 v hb⟩,?_⟩
    ·refine Kd.ah (Kd.bF (p:=⟨gp,0,none⟩) (ok:=fun k_=>w.heap.size≤k_) (Kd.dO (Kd.jE rfl hR (fun k_ hk_=>Kd.dW hR k_ hk_)) hBs) (fun k_ hk_ e_=>?_) v) (fun k_ hk_=>⟨hk_,by simp [Value.ownBlock]⟩)
     have:=aV hp;subst e_;omega
    ·unfold Dzq.f;rw[hm];simp only[Option.bind_some];rw[if_neg l7]
   | 1,hx,hI =>
    cases hx
    obtain⟨hk,j8,v,x,rfl,hm,hR,hb⟩:=hI;refine⟨hfn,?_⟩;unfold Dzq.f at h;rw[Option.bind_eq_some_iff] at h;obtain⟨⟨x',l6⟩,hm',h⟩:=h;rw[hm] at hm';cases hm'
    simp only[if_true] at h;rw[Option.bind_eq_some_iff] at h;obtain⟨⟨y,l8⟩,l9,h⟩:=h;have hp1:j8.heap[gp]?=some (.cells #[.slice none 0 0] 31 (0,0)):=(hb.block gp (aV hp)).trans hp;have hq1:(j8.setCell ⟨gp,0,none⟩ v).heap[gq]?=some (.cells #[.slice none 0 0] 31 (0,0)):=av ((hb.block gq (aV hq)).trans hq) (Ne.symm hne) v;have m0:Thk (j8.setCell ⟨gp,0,none⟩ v) a7 gq b7 l2.length c2 b8 d6.length b9:=⟨hfar _ _ _ hk (by omega) (by have:=f6.lt;omega) f6.tp,hfar _ _ _ hk (by omega) (by have:=f6.lt;omega) f6.fa,hfar _ _ _ hk (by omega) (by have:=f6.lt;omega) f6.fb,f6.lt⟩
    refine(Gzm.calls k a7 gq b7 c2 l2 b8 b9 d6 _ y l8 _ m0 hq1 (j4 _ hk) j5 (j6 _ hk) j7 l9).mono ?_;rintro e W' ⟨m4,u,rfl,rfl,m5,m6⟩;have hps:gp < w.heap.size:=aV hp;have hqs:gq < w.heap.size:=aV hq;have m7:w.heap.size≤(j8.setCell ⟨gp,0,none⟩ v).heap.size:=hk.1;have hRv:Kd.R (Kd.int .i64) 3 (j8.setCell ⟨gp,0,none⟩ v) w.heap.size (fun k_=>w.heap.size≤k_) v x:=Kd.bF (p:=⟨gp,0,none⟩) (Kd.jE rfl hR (fun k_ hk_=>Kd.dW hR k_ hk_)) (fun k_ hk_ e_=>by subst e_;omega) v
    have hkk:Kept w (m4.setCell ⟨gq,0,none⟩ u) (fun k_=>k_=gp∨k_=gq):=kept_trans hk (iB m6 (Nat.le_refl _) (.inr rfl) u)
    have hFin:zL e6 w (m4.setCell ⟨gq,0,none⟩ u) gp gq v u x y:=by
     refine⟨av ((m6.block gp (by omega)).trans (au hp1 0 v rfl)) hne u,au ((m6.block gq (by omega)).trans hq1) 0 u rfl,?_,?_,iG (iG hB hBs hb hgp v) (by omega) m6 hgq u,hkk⟩
     ·refine Kd.bF (p:=⟨gq,0,none⟩) ?_ (fun k_ hk_ e_=>by subst e_;omega) u
      exact Kd.dO (Kd.pK (rX hRv) (fun k_ hk_=>Kd.dW m5 k_ hk_) m6) hBs
     ·refine Kd.bF (p:=⟨gq,0,none⟩) ?_ (fun k_ hk_ e_=>by subst e_;omega) u
      refine Kd.dO (Kd.jE rfl m5 (fun k_ hk_=>⟨Nat.le_trans m7 (Kd.dW m5 k_ hk_),fun e_=>?_⟩)) (by omega)
      have:=Kd.dS hRv k_ e_.symm;have:=Kd.dW m5 k_ hk_;omega
    have m8:Dzq.f k l1 b6 l2 d6=some (l8,x,y):=by
     unfold Dzq.f;rw[hm];simp only[Option.bind_some,if_true];rw[l9];rfl
    exact⟨l8,rfl,fun l7=>⟨hkk,v,u,x,y,hFin,by rw[m8,l7]⟩,fun _=>⟨v,u,x,y,hFin,m8⟩⟩
   | j+2,hx,hI=>simp at hx
 have hI0:I 0 w:=⟨⟨Nat.le_refl _,fun _ _ _=>rfl⟩,rfl⟩
 refine(Hzp.calls [ed 96 a6,ed 96 a7] ⟨g,0,none⟩ cg w I Qr hS hI0 (by simp)).mono ?_
 rintro e w' ⟨r,rfl,vp,vq,x,y,hF,hf⟩;rw[h] at hf;cases hf
 exact⟨rfl,vp,vq,hF⟩



def Gzy.f (k:Nat) (l0:List Int) (l1:List Int):Option (Int × Int):=(Azv.f k l0).bind fun t342=>(if t342=true then((Azv.f k l1).bind fun t343=>(if t343=true then((Czf.f k l0 l1).bind fun t344=>(some (t344,0))) else(some (0,3)))) else(some (0,3)))
theorem Gzy.mono:∀ a6 a7 k,LeO (Gzy.f k a6 a7) (Gzy.f (k+1) a6 a7):=by
 intro a6 a7 k;unfold Gzy.f;have i0:=@Azv.mono;have i1:=@Czf.mono;exact mM
theorem Gzy.calls (k:Nat) (a6:Option Addr) (a7:Nat) (l0:List Int) (a8:Option Addr) (a9:Nat) (l1:List Int) (b4:Int) (b5:Int) (w:World) (b6:cI w a6 l0) (b7:l0.length≤a7) (b8:cI w a8 l1) (b9:l1.length≤a9) (h:Gzy.f k l0 l1=some (b4,b5)) :
  Calls Try.prog 69 #[.slice a6 l0.length a7,.slice a8 l1.length a9] w fun e w'=>e=.returned (.tuple #[.int .i64 b4,.int .i64 b5])∧dC w w':=by
 have d6:=aM b6;have d7:=aM b7;clear b6 b7;have d8:=aM b8;have d9:=aM b9;clear b8 b9;have H:((Azv.f k l0).bind fun e6=>(if e6=true then((Azv.f k l1).bind fun e7=>(if e7=true then((Czf.f k l0 l1).bind fun f6=>(some (f6,0))) else(some (0,3)))) else(some (0,3))))=some (b4,b5):=h
 clear h;obtain⟨e6,f7,H⟩:=bT H;(try dsimp only at H);by_cases c4:e6=true
 ·subst c4;rw[if_pos rfl] at H;obtain⟨e7,f8,H⟩:=bT H;(try dsimp only at H);have g5:=aM H;clear H;go_enter Try.func69,Try.ntmps69
  go_upto_if 13 with (first|((with_reducible refine gc 65 rfl ?_);refine gC 65 (some 7) Try.func65 #[.slice a6 l0.length a7] ?_;(with_reducible refine(Azv.calls k _ _ l0 true _ ?_ ?_ f7.out).mono ?_);exact cX d6.out;exact d7.out;rintro e w' ⟨rfl,⟨nd,rfl⟩⟩;refine⟨_,rfl,?_⟩)|(go_at_call 65;(with_reducible refine(Azv.calls k _ _ l1 e7 _ ?_ ?_ f8.out).mono ?_);exact cX d8.out;exact d9.out;rintro e w' ⟨rfl,⟨nd,rfl⟩⟩))
  have H:=g5.out;clear g5;by_cases c7:e7=true
  ·subst c7;rw[if_pos rfl] at H;replace H:=bS H;obtain⟨f6,g8,H⟩:=H;replace H:(some (f6,0))=some (b4,b5):=H;have g9:=aM g8;clear g8;obtain⟨rfl,rfl⟩:=q2 H;go_wp2_with (first|((with_reducible refine gc 98 rfl ?_);refine gC 98 (some 16) Try.func98 #[.slice a6 l0.length a7,.slice a8 l1.length a9] ?_;(with_reducible refine(Czf.calls k _ _ l0 _ _ l1 f6 _ ?_ ?_ ?_ ?_ g9.out).mono ?_);exact cX d6.out;exact d7.out;exact cX d8.out;exact d9.out;rintro e w' ⟨rfl,⟨nd,rfl⟩⟩;refine⟨_,rfl,?_⟩))
   go_ret2
   exact⟨sD,dR⟩
  ·obtain rfl:=bN c7;rw[if_neg nF] at H
   obtain⟨rfl,rfl⟩:=q2 H;go_wp2
   go_ret2
   exact⟨sD,dR⟩
 ·obtain rfl:=bN c4;rw[if_neg nF] at H
  obtain⟨rfl,rfl⟩:=q2 H;go_enter Try.func69,Try.ntmps69
  go_wp2_with (first|((with_reducible refine gc 65 rfl ?_);refine gC 65 (some 7) Try.func65 #[.slice a6 l0.length a7] ?_;(with_reducible refine(Azv.calls k _ _ l0 false _ ?_ ?_ f7.out).mono ?_);exact cX d6.out;exact d7.out;rintro e w' ⟨rfl,⟨nd,rfl⟩⟩;refine⟨_,rfl,?_⟩))
  go_ret2
  exact⟨sD,dR⟩


mutual
def Ezq.j0:Nat→List Int→List Int→Bool→Option (List Int × Int)
 | 0,_,_,_=>none
 | k+1,x0,x1,x17=>if x17=true then(some (([]:List Int),3)) else((Gzz.f x0 (wrap64 ((mx (x0.length:Int) (x1.length:Int))+1))).bind fun t347=>(Ezq.l0 k x1 t347 0 (t347.length:Int) 0))
def Ezq.l0:Nat→List Int→List Int→Int→Int→Int→Option (List Int × Int)
 | 0,_,_,_,_,_=>none
 | k+1,x1,x6,x7,x27,x28=>if x28 < x27 then(if 0≤x28 then(if x28 < (x6.length:Int) then(if x28 < (x1.length:Int) then(Ezq.l0 k x1 (x6.set (x28:Int).toNat (Int.tmod (wrap64 ((wrap64 ((rd x6 x28)+x7))+(rd x1 x28))) 1000000000)) (wrap64 (Int.tdiv (wrap64 ((wrap64 ((rd x6 x28)+x7))+(rd x1 x28))) 1000000000)) x27 (wrap64 (x28+1))) else(Ezq.l0 k x1 (x6.set (x28:Int).toNat (Int.tmod (wrap64 ((rd x6 x28)+x7)) 1000000000)) (wrap64 (Int.tdiv (wrap64 ((rd x6 x28)+x7)) 1000000000)) x27 (wrap64 (x28+1)))) else(none)) else(none)) else((Fzz.f k x6).bind fun bt354=>(some (bt354.1,bt354.2)))
end
def Ezq.f (k:Nat) (l0:List Int) (l1:List Int):Option (List Int × Int):=(Azv.f k l0).bind fun t345=>(if t345=true then((Azv.f k l1).bind fun t346=>(Ezq.j0 k l0 l1 (!t346))) else(Ezq.j0 k l0 l1 true))
theorem Ezq.mono_l:∀ k,(∀ a6 a7 a8,LeO (Ezq.j0 k a6 a7 a8) (Ezq.j0 (k+1) a6 a7 a8))∧(∀ a6 a7 a8 a9 b4,LeO (Ezq.l0 k a6 a7 a8 a9 b4) (Ezq.l0 (k+1) a6 a7 a8 a9 b4))
 | 0=>⟨fun _ _ _ r h=>by simp [Ezq.j0] at h,fun _ _ _ _ _ r h=>by simp [Ezq.l0] at h⟩
 | k+1=>by
  obtain⟨ih0,ih1⟩:=Ezq.mono_l k;have i0:=@Azv.mono;have i1:=@Fzz.mono;refine⟨?_,?_⟩
  ·intro a6 a7 a8;unfold Ezq.j0;exact mM
  ·intro a6 a7 a8 a9 b4;unfold Ezq.l0;exact mM
theorem Ezq.mono:∀ a6 a7 k,LeO (Ezq.f k a6 a7) (Ezq.f (k+1) a6 a7):=by
 intro a6 a7 k;obtain⟨ih0,ih1⟩:=Ezq.mono_l k;unfold Ezq.f;have i0:=@Azv.mono;have i1:=@Fzz.mono;exact mM
theorem Ezq.calls (k:Nat) (a6:Option Addr) (a7:Nat) (l0:List Int) (a8:Option Addr) (a9:Nat) (l1:List Int) (b4:List Int) (b5:Int) (w:World) (b6:cI w a6 l0) (b7:l0.length≤a7) (b8:cI w a8 l1) (b9:l1.length≤a9) (h:Ezq.f k l0 l1=some (b4,b5)) :
  Calls Try.prog 89 #[.slice a6 l0.length a7,.slice a8 l1.length a9] w fun e w'=>∃ v0_:Value,e=.returned (.tuple #[v0_,.int .i64 b5])∧rI w' w (fun _=>True) v0_ b4∧bw w w':=by
 have d6:=aM b6;have d7:=aM b7;clear b6 b7;have d8:=aM b8;have d9:=aM b9;clear b8 b9;have HB:=aM (Below.refl w.heap.size w);have H:((Azv.f k l0).bind fun e6=>(if e6=true then((Azv.f k l1).bind fun e7=>(Ezq.j0 k l0 l1 (!e7))) else(Ezq.j0 k l0 l1 true)))=some (b4,b5):=h
 clear h;have f6:=aM H;clear H;go_enter Try.func89,Try.ntmps89
 go_upto_region 1 with (fail)
 go_cut [17] (fun f7 wc=>∃ (kq:Nat) (f8:Bool),f7=.bool f8∧ae (Ezq.j0 kq l0 l1 f8=some (b4,b5))∧ae (kq≤k)∧ae (bw w wc))
 case first =>
  have H:=f6.out;clear f6;obtain⟨e6,g5,H⟩:=bT H;(try dsimp only at H);by_cases c5:e6=true
  ·subst c5;rw[if_pos rfl] at H;obtain⟨e7,g8,H⟩:=bT H;(try dsimp only at H);have H':=aM H;clear H;go_wp2_with (first|((with_reducible refine gc 65 rfl ?_);refine gC 65 (some 11) Try.func65 #[.slice a6 l0.length a7] ?_;(with_reducible refine(Azv.calls k _ _ l0 true _ ?_ ?_ g5.out).mono ?_);exact cB d6;exact d7.out;rintro e w' ⟨rfl,⟨nd,rfl⟩⟩;refine⟨_,rfl,?_⟩)|(go_at_call 65;(with_reducible refine(Azv.calls k _ _ l1 e7 _ ?_ ?_ g8.out).mono ?_);exact cB d8;exact d9.out;rintro e w' ⟨rfl,⟨nd,rfl⟩⟩))
   go_meet
   case rel=>exact⟨_,(!e7),sD,H',⟨by first|omega|exact Nat.le_refl _⟩,⟨pB⟩⟩
  ·obtain rfl:=bN c5;rw[if_neg nF] at H
   have H':=aM H;clear H;go_wp2_with (first|((with_reducible refine gc 65 rfl ?_);refine gC 65 (some 11) Try.func65 #[.slice a6 l0.length a7] ?_;(with_reducible refine(Azv.calls k _ _ l0 false _ ?_ ?_ g5.out).mono ?_);exact cB d6;exact d7.out;rintro e w' ⟨rfl,⟨nd,rfl⟩⟩;refine⟨_,rfl,?_⟩))
   go_meet
   case rel=>exact⟨_,(true),sD,H',⟨by first|omega|exact Nat.le_refl _⟩,⟨pB⟩⟩
 case rest =>
  clear f6;try clear a9
  obtain⟨kq,f8,rfl,HA,g9,HB⟩:=hcut;cases kq with
  | zero=>exact absurd HA.out (by simp [Ezq.j0])
  | succ j3 =>
   have H:=HA.out;clear HA;simp only[Ezq.j0] at H;by_cases c7:f8=true
   ·subst c7;rw[if_pos rfl] at H;obtain⟨rfl,rfl⟩:=q2 H;go_wp2
    go_ret2
    exact⟨_,eW,nK,pB⟩
   ·obtain rfl:=bN c7;rw[if_neg nF] at H
    obtain⟨j4,j5⟩:∃ j_:Int,(mx (l0.length:Int) (l1.length:Int))=j_:=⟨_,rfl⟩;replace H:((Gzz.f l0 (wrap64 ((j4)+1))).bind fun j6=>(Ezq.l0 j3 l1 j6 0 (j6.length:Int) 0))=some (b4,b5):=by first|(rw[j5] at H;exact H)|(simp only[j5] at H ⊢;exact H)
    have j7:(if(l0.length:Int) < (l1.length:Int) then(l1.length:Int) else(l0.length:Int))=j4:=j5
    have j8:(if l0.length < l1.length then(l1.length:Int) else(l0.length:Int))=j4:=by rw[← j7];simp only[Int.ofNat_lt]
    obtain⟨j6,j9,H⟩:=bT H;(try dsimp only at H);have H':=aM H;clear H;go_wp2_with (first|((with_reducible refine df (f:=93) rfl ?_);refine gJ (some 25) rfl rfl Try.func93 (by kernel_rfl) rfl #[.slice a6 l0.length a7,.int .i64 (wrap64 ((j4)+1))] rfl (by(try simp only[List.map_toArray,List.map_cons,List.map_nil]);first|done|(simp only[j5];rfl)|rfl|(simp only[List.length_drop,List.length_take];rfl)) ?_;(with_reducible refine(Gzz.calls _ _ l0 (wrap64 ((j4)+1)) j6 _ ?_ ?_ j9.out).mono ?_);exact cB d6;exact d7.out;rintro e l5 ⟨l6,rfl,l7,hb⟩;refine⟨_,rfl,?_⟩;have l8:=rL l7;replace HB:=bB hb;clear hb l7;obtain⟨l9,m0,rfl⟩:=Kd.aj l8.out))
    go_loopg [7,28] j3 (fun kq m4 m5 w'=>∃ (m6:List Int) (m7:Int) (m8:Int),m4=.int .i64 m7∧m5=.int .i64 m8∧ae (Ezq.l0 kq l1 m6 m7 (j6.length:Int) m8=some (b4,b5))∧ae (kq≤j3)∧ae (rI w' w (fun _=>True) (.slice l9 j6.length m0) m6)∧ae (bw w w'))
    case atStart=>exact⟨(j6),(0),(0),sD,sD,H',⟨Nat.le_refl _⟩,⟨rX l8.out⟩,⟨pB⟩⟩
    case round =>
     clear H';try clear a9
     obtain⟨m6,m7,m8,rfl,rfl,HA,m9,n0,HB⟩:=hrel;have n7:=(Kd.ax n0.out).1;rw[n7] at n0;(try simp only[n7])
     cases gk with
     | zero=>exact absurd HA.out (by simp [Ezq.l0])
     | succ k2 =>
      have H:=HA.out;clear HA;simp only[Ezq.l0] at H;by_cases n8:m8 < (j6.length:Int)
      ·rw[if_pos n8] at H;have n9:=dE n8;have o0:=n9;(try simp only[n7] at o0)
       clear n8;obtain⟨o8,H⟩:=iN H;obtain⟨o9,H⟩:=iO H;have p9:decide (m8 < (m6.length:Int))=true:=dE o9;have r6:=p9;(try simp only[n7] at r6)
       clear o9;by_cases r7:m8 < (l1.length:Int)
       ·rw[if_pos r7] at H;have r8:=dE r7;have r9:=r8;(try simp only[n7] at r9)
        clear r7;obtain⟨t4,t5⟩:∃ y_:List Int,y_=(m6.set (m8:Int).toNat (Int.tmod (wrap64 ((wrap64 ((rd m6 m8)+m7))+(rd l1 m8))) 1000000000)):=⟨_,rfl⟩;replace H:(Ezq.l0 k2 l1 t4 (wrap64 (Int.tdiv (wrap64 ((wrap64 ((rd m6 m8)+m7))+(rd l1 m8))) 1000000000)) (j6.length:Int) (wrap64 (m8+1)))=some (b4,b5):=yE t5 H
        have t6:=aM t5;clear t5;have H':=aM H;clear H;obtain⟨t7,t8,t9,z3,z4⟩:=aI (Kd.ax n0.out).2.2 m8;cases t8;obtain⟨z5,z6,z7,z8,z9⟩:=aI d8.out m8;cases z6
        replace z7:=hB HB z7;have B0:0≤(m8:Int):=oE aS
        have B5:(m8:Int) < ((m6.length:Int):Int):=oE aS
        obtain⟨B9,C0,C1,C2,C3,C4,C6⟩:=Kd.fu n0.out (by omega)
        (first|cases C1|(injection C1 with ea_ en_ ec_;(first|subst ea_|(injection ea_ with ea_;subst ea_));subst ec_;clear en_))
        have C7:=aM C2;have C8:=aM C6;clear C2 C3 C6;(first|simp only[add_plain] at t9|skip)
        obtain⟨C9,D4⟩:=Kd.bU 0 n0.out (m8:Int) B0 B5;replace B0:=eq_true B0;replace B5:=eq_true B5;have D5:=Kd.dX n0.out (m8:Int) (Int.tmod (wrap64 ((wrap64 ((rd m6 m8)+m7))+(rd l1 m8))) 1000000000);go_wp2_with (first|((with_reducible refine bH (t:=3) (p:=53) rfl ?_);refine aZ (t:=3) (p:=53) (v:=?vo_w18) (w1:=(wr.setCell ⟨B9,(m8:Int).toNat,none⟩ (.int .i64 (Int.tmod (wrap64 ((wrap64 ((rd m6 m8)+m7))+(rd l1 m8))) 1000000000)))) ?hg ?ho ?hn ?hr ?_;(case ho=>rfl);(case hg=>rfl);(case hn=>rfl);(case hr=>first|(go_simp;done)|(go_simp;rfl));intro D6 hw;have hg:wr.grownBy D6 (some B9):=(by rw[hw];exact D5.2);have hp_:rI D6 w (fun _=>True) (.slice (some ⟨B9,0,none⟩) m6.length m0) t4:=(by rw[hw,t6.out];exact D5.1);clear D5;replace n0:=aM (hp_);replace HB:=aM ((by rw[hw];exact cZ (HB.out) C7.out:bw w D6));clear hg hw hp_))
        (try simp only[← n7])
        go_roundg k2
        case measure=>have:=g9.out;have:=m9.out;omega
        case rel=>exact⟨(t4),(wrap64 (Int.tdiv (wrap64 ((wrap64 ((rd m6 m8)+m7))+(rd l1 m8))) 1000000000)),(wrap64 (m8+1)),sD,sD,H',⟨by have:=g9.out;have:=m9.out;omega⟩,⟨by(try simp only[n7]);(with_reducible repeat(first|apply Kd.fE|apply Kd.fo|apply Kd.eZ));exact n0.out⟩,⟨pB⟩⟩
       ·rw[if_neg r7] at H;have r8:decide (m8 < (l1.length:Int))=false:=decide_eq_false r7;have r9:=r8;(try simp only[n7] at r9)
        clear r7;obtain⟨D7,D8⟩:∃ y_:List Int,y_=(m6.set (m8:Int).toNat (Int.tmod (wrap64 ((rd m6 m8)+m7)) 1000000000)):=⟨_,rfl⟩;replace H:(Ezq.l0 k2 l1 D7 (wrap64 (Int.tdiv (wrap64 ((rd m6 m8)+m7)) 1000000000)) (j6.length:Int) (wrap64 (m8+1)))=some (b4,b5):=yE D8 H
        have D9:=aM D8;clear D8;have H':=aM H;clear H;obtain⟨t7,t8,t9,z3,z4⟩:=aI (Kd.ax n0.out).2.2 m8;cases t8;have E0:0≤(m8:Int):=oE aS
        have E1:(m8:Int) < ((m6.length:Int):Int):=oE aS
        obtain⟨E2,E3,E4,E5,E6,E7,E8⟩:=Kd.fu n0.out (by omega)
        (first|cases E4|(injection E4 with ea_ en_ ec_;(first|subst ea_|(injection ea_ with ea_;subst ea_));subst ec_;clear en_))
        have E9:=aM E5;have F0:=aM E8;clear E5 E6 E8;(first|simp only[add_plain] at t9|skip)
        obtain⟨F2,F3⟩:=Kd.bU 0 n0.out (m8:Int) E0 E1;replace E0:=eq_true E0;replace E1:=eq_true E1;have F4:=Kd.dX n0.out (m8:Int) (Int.tmod (wrap64 ((rd m6 m8)+m7)) 1000000000);go_wp2_with (first|((with_reducible refine bH (t:=3) (p:=53) rfl ?_);refine aZ (t:=3) (p:=53) (v:=?vo_w21) (w1:=(wr.setCell ⟨E2,(m8:Int).toNat,none⟩ (.int .i64 (Int.tmod (wrap64 ((rd m6 m8)+m7)) 1000000000)))) ?hg ?ho ?hn ?hr ?_;(case ho=>rfl);(case hg=>rfl);(case hn=>rfl);(case hr=>first|(go_simp;done)|(go_simp;rfl));intro F5 hw;have hg:wr.grownBy F5 (some E2):=(by rw[hw];exact F4.2);have hp_:rI F5 w (fun _=>True) (.slice (some ⟨E2,0,none⟩) m6.length m0) D7:=(by rw[hw,D9.out];exact F4.1);clear F4;replace n0:=aM (hp_);replace HB:=aM ((by rw[hw];exact cZ (HB.out) E9.out:bw w F5));clear hg hw hp_))
        (try simp only[← n7])
        go_roundg k2
        case measure=>have:=g9.out;have:=m9.out;omega
        case rel=>exact⟨(D7),(wrap64 (Int.tdiv (wrap64 ((rd m6 m8)+m7)) 1000000000)),(wrap64 (m8+1)),sD,sD,H',⟨by have:=g9.out;have:=m9.out;omega⟩,⟨by(try simp only[n7]);(with_reducible repeat(first|apply Kd.fE|apply Kd.fo|apply Kd.eZ));exact n0.out⟩,⟨pB⟩⟩
      ·rw[if_neg n8] at H;have n9:decide (m8 < (j6.length:Int))=false:=decide_eq_false n8;have o0:=n9;(try simp only[n7] at o0)
       clear n8;replace H:=bS H;obtain⟨⟨F6,F7⟩,F8,H⟩:=H;replace H:(some (F6,F7))=some (b4,b5):=H;have F9:=aM F8;clear F8;obtain⟨rfl,rfl⟩:=q2 H;go_wp2_with (first|((with_reducible refine gc 110 rfl ?_);refine gC 110 (some 56) Try.func110 #[.slice l9 m6.length m0] ?_;(with_reducible refine(Fzz.calls k2 (fun k_=>some k_=(.slice l9 m6.length m0:Value).ownBlock) (.slice l9 m6.length m0) m6 F6 F7 w _ ?_ ?_ F9.out).mono ?_);exact pB;exact Kd.dJ rfl n0.out;rintro e G5 ⟨G9,rfl,l7,hb,hkp⟩;refine⟨_,rfl,?_⟩;have H5:=aM (Kd.ah (ok':=fun k_=>True) l7 (fun k_ hk_=>trivial));replace HB:=aM (hb);clear n0 hb hkp l7))
       go_ret2
       exact⟨_,by first|rfl|(simp [bv,bC] <;> rfl)|(simp only[← j5];first|rfl|(simp [bv,bC] <;> rfl))|(simp [*,bv,bC] <;> rfl),rX H5.out,pB⟩


mutual
def Dzm.j0:Nat→List Int→List Int→Bool→Option (List Int × Int)
 | 0,_,_,_=>none
 | k+1,x0,x1,x17=>if x17=true then(some (([]:List Int),3)) else((Czf.f k x0 x1).bind fun t360=>(if t360 < 0 then(some (([]:List Int),1)) else((Gzz.f x0 (x0.length:Int)).bind fun t361=>(Dzm.l0 k x1 t361 0 (t361.length:Int) 0))))
def Dzm.l0:Nat→List Int→List Int→Int→Int→Int→Option (List Int × Int)
 | 0,_,_,_,_,_=>none
 | k+1,x1,x6,x7,x27,x28=>if x28 < x27 then(if 0≤x28 then(if x28 < (x6.length:Int) then(if x28 < (x1.length:Int) then(if(wrap64 ((wrap64 ((rd x6 x28) - x7)) - (rd x1 x28))) < 0 then(Dzm.l0 k x1 (x6.set (x28:Int).toNat (wrap64 ((wrap64 ((wrap64 ((rd x6 x28) - x7)) - (rd x1 x28)))+1000000000))) 1 x27 (wrap64 (x28+1))) else(Dzm.l0 k x1 (x6.set (x28:Int).toNat (wrap64 ((wrap64 ((rd x6 x28) - x7)) - (rd x1 x28)))) 0 x27 (wrap64 (x28+1)))) else(if(wrap64 ((rd x6 x28) - x7)) < 0 then(Dzm.l0 k x1 (x6.set (x28:Int).toNat (wrap64 ((wrap64 ((rd x6 x28) - x7))+1000000000))) 1 x27 (wrap64 (x28+1))) else(Dzm.l0 k x1 (x6.set (x28:Int).toNat (wrap64 ((rd x6 x28) - x7))) 0 x27 (wrap64 (x28+1))))) else(none)) else(none)) else((Bzy.f k x6).bind fun t364=>(some (t364,0)))
end
def Dzm.f (k:Nat) (l0:List Int) (l1:List Int):Option (List Int × Int):=(Azv.f k l0).bind fun t358=>(if t358=true then((Azv.f k l1).bind fun t359=>(Dzm.j0 k l0 l1 (!t359))) else(Dzm.j0 k l0 l1 true))
theorem Dzm.mono_l:∀ k,(∀ a6 a7 a8,LeO (Dzm.j0 k a6 a7 a8) (Dzm.j0 (k+1) a6 a7 a8))∧(∀ a6 a7 a8 a9 b4,LeO (Dzm.l0 k a6 a7 a8 a9 b4) (Dzm.l0 (k+1) a6 a7 a8 a9 b4))
 | 0=>⟨fun _ _ _ r h=>by simp [Dzm.j0] at h,fun _ _ _ _ _ r h=>by simp [Dzm.l0] at h⟩
 | k+1=>by
  obtain⟨ih0,ih1⟩:=Dzm.mono_l k;have i0:=@Azv.mono;have i1:=@Czf.mono;have i2:=@Bzy.mono;refine⟨?_,?_⟩
  ·intro a6 a7 a8;unfold Dzm.j0;exact mM
  ·intro a6 a7 a8 a9 b4;unfold Dzm.l0;exact mM
theorem Dzm.mono:∀ a6 a7 k,LeO (Dzm.f k a6 a7) (Dzm.f (k+1) a6 a7):=by
 intro a6 a7 k;obtain⟨ih0,ih1⟩:=Dzm.mono_l k;unfold Dzm.f;have i0:=@Azv.mono;have i1:=@Czf.mono;have i2:=@Bzy.mono;exact mM
theorem Dzm.calls (k:Nat) (a6:Option Addr) (a7:Nat) (l0:List Int) (a8:Option Addr) (a9:Nat) (l1:List Int) (b4:List Int) (b5:Int) (w:World) (b6:cI w a6 l0) (b7:l0.length≤a7) (b8:cI w a8 l1) (b9:l1.length≤a9) (h:Dzm.f k l0 l1=some (b4,b5)) :
  Calls Try.prog 90 #[.slice a6 l0.length a7,.slice a8 l1.length a9] w fun e w'=>∃ v0_:Value,e=.returned (.tuple #[v0_,.int .i64 b5])∧rI w' w (fun _=>True) v0_ b4∧bw w w':=by
 have d6:=aM b6;have d7:=aM b7;clear b6 b7;have d8:=aM b8;have d9:=aM b9;clear b8 b9;have HB:=aM (Below.refl w.heap.size w);have H:((Azv.f k l0).bind fun e6=>(if e6=true then((Azv.f k l1).bind fun e7=>(Dzm.j0 k l0 l1 (!e7))) else(Dzm.j0 k l0 l1 true)))=some (b4,b5):=h
 clear h;have f6:=aM H;clear H;go_enter Try.func90,Try.ntmps90
 go_upto_region 1 with (fail)
 go_cut [17] (fun f7 wc=>∃ (kq:Nat) (f8:Bool),f7=.bool f8∧ae (Dzm.j0 kq l0 l1 f8=some (b4,b5))∧ae (kq≤k)∧ae (bw w wc))
 case first =>
  have H:=f6.out;clear f6;obtain⟨e6,g5,H⟩:=bT H;(try dsimp only at H);by_cases c5:e6=true
  ·subst c5;rw[if_pos rfl] at H;obtain⟨e7,g8,H⟩:=bT H;(try dsimp only at H);have H':=aM H;clear H;go_wp2_with (first|((with_reducible refine gc 65 rfl ?_);refine gC 65 (some 11) Try.func65 #[.slice a6 l0.length a7] ?_;(with_reducible refine(Azv.calls k _ _ l0 true _ ?_ ?_ g5.out).mono ?_);exact cB d6;exact d7.out;rintro e w' ⟨rfl,⟨nd,rfl⟩⟩;refine⟨_,rfl,?_⟩)|(go_at_call 65;(with_reducible refine(Azv.calls k _ _ l1 e7 _ ?_ ?_ g8.out).mono ?_);exact cB d8;exact d9.out;rintro e w' ⟨rfl,⟨nd,rfl⟩⟩))
   go_meet
   case rel=>exact⟨_,(!e7),sD,H',⟨by first|omega|exact Nat.le_refl _⟩,⟨pB⟩⟩
  ·obtain rfl:=bN c5;rw[if_neg nF] at H
   have H':=aM H;clear H;go_wp2_with (first|((with_reducible refine gc 65 rfl ?_);refine gC 65 (some 11) Try.func65 #[.slice a6 l0.length a7] ?_;(with_reducible refine(Azv.calls k _ _ l0 false _ ?_ ?_ g5.out).mono ?_);exact cB d6;exact d7.out;rintro e w' ⟨rfl,⟨nd,rfl⟩⟩;refine⟨_,rfl,?_⟩))
   go_meet
   case rel=>exact⟨_,(true),sD,H',⟨by first|omega|exact Nat.le_refl _⟩,⟨pB⟩⟩
 case rest =>
  clear f6;try clear a9
  obtain⟨kq,f8,rfl,HA,g9,HB⟩:=hcut;cases kq with
  | zero=>exact absurd HA.out (by simp [Dzm.j0])
  | succ j3 =>
   have H:=HA.out;clear HA;simp only[Dzm.j0] at H;by_cases c7:f8=true
   ·subst c7;rw[if_pos rfl] at H;obtain⟨rfl,rfl⟩:=q2 H;go_wp2
    go_ret2
    exact⟨_,eW,nK,pB⟩
   ·obtain rfl:=bN c7;rw[if_neg nF] at H
    obtain⟨j4,j5,H⟩:=bT H;(try dsimp only at H);have j6:=aM H;clear H;go_upto_if 21 with (first|((with_reducible refine gc 98 rfl ?_);refine gC 98 (some 20) Try.func98 #[.slice a6 l0.length a7,.slice a8 l1.length a9] ?_;(with_reducible refine(Czf.calls j3 _ _ l0 _ _ l1 j4 _ ?_ ?_ ?_ ?_ j5.out).mono ?_);exact cB d6;exact d7.out;exact cB d8;exact d9.out;rintro e w' ⟨rfl,⟨nd,rfl⟩⟩;refine⟨_,rfl,?_⟩))
    have H:=j6.out;clear j6;replace H:=iD H;rcases H with⟨j7,H⟩|⟨j7,H⟩
    ·(first|rw[j7]|(simp only[aH,bg];rw[j7])|skip)
     obtain⟨rfl,rfl⟩:=q2 H;go_wp2
     go_ret2
     exact⟨_,eW,nK,pB⟩
    ·(first|rw[j7]|(simp only[aH,bg];rw[j7])|skip)
     obtain⟨j8,j9,H⟩:=bT H;(try dsimp only at H);have H':=aM H;clear H;go_wp2_with (first|((with_reducible refine gc 93 rfl ?_);refine gC 93 (some 25) Try.func93 #[.slice a6 l0.length a7,.int .i64 (l0.length:Int)] ?_;(with_reducible refine(Gzz.calls _ _ l0 (l0.length:Int) j8 _ ?_ ?_ j9.out).mono ?_);exact cB d6;exact d7.out;rintro e l5 ⟨l6,rfl,l7,hb⟩;refine⟨_,rfl,?_⟩;have l8:=rL l7;replace HB:=bB hb;clear hb l7;obtain⟨l9,m0,rfl⟩:=Kd.aj l8.out))
     go_loopg [7,28] j3 (fun kq m4 m5 w'=>∃ (m6:List Int) (m7:Int) (m8:Int),m4=.int .i64 m7∧m5=.int .i64 m8∧ae (Dzm.l0 kq l1 m6 m7 (j8.length:Int) m8=some (b4,b5))∧ae (kq≤j3)∧ae (rI w' w (fun _=>True) (.slice l9 j8.length m0) m6)∧ae (bw w w'))
     case atStart=>exact⟨(j8),(0),(0),sD,sD,H',⟨Nat.le_refl _⟩,⟨rX l8.out⟩,⟨pB⟩⟩
     case round =>
      clear H';try clear a9
      obtain⟨m6,m7,m8,rfl,rfl,HA,m9,n0,HB⟩:=hrel;have n7:=(Kd.ax n0.out).1;rw[n7] at n0;(try simp only[n7])
      cases gk with
      | zero=>exact absurd HA.out (by simp [Dzm.l0])
      | succ k2 =>
       have H:=HA.out;clear HA;simp only[Dzm.l0] at H;by_cases n8:m8 < (j8.length:Int)
       ·rw[if_pos n8] at H;have n9:=dE n8;have o0:=n9;(try simp only[n7] at o0)
        clear n8;obtain⟨o8,H⟩:=iN H;obtain⟨o9,H⟩:=iO H;have p9:decide (m8 < (m6.length:Int))=true:=dE o9;have r6:=p9;(try simp only[n7] at r6)
        clear o9;by_cases r7:m8 < (l1.length:Int)
        ·rw[if_pos r7] at H;have r8:=dE r7;have r9:=r8;(try simp only[n7] at r9)
         clear r7;by_cases t4:(wrap64 ((wrap64 ((rd m6 m8) - m7)) - (rd l1 m8))) < 0
         ·rw[if_pos t4] at H;have t5:decide ((wrap64 ((wrap64 ((rd m6 m8) - m7)) - (rd l1 m8))) < 0)=true:=dE t4;have t6:decide ((IntKind.i64.wrap ((IntKind.i64.wrap ((rd m6 m8) - m7)) - (rd l1 m8))) < 0)=true:=by have h_:=t5;first|exact h_|(simp only[aH];exact h_)
          clear t4;obtain⟨t7,t8⟩:∃ y_:List Int,y_=(m6.set (m8:Int).toNat (wrap64 ((wrap64 ((wrap64 ((rd m6 m8) - m7)) - (rd l1 m8)))+1000000000))):=⟨_,rfl⟩;replace H:(Dzm.l0 k2 l1 t7 1 (j8.length:Int) (wrap64 (m8+1)))=some (b4,b5):=yE t8 H
          have t9:=aM t8;clear t8;have H':=aM H;clear H;obtain⟨z3,z4,z5,z6,z7⟩:=aI (Kd.ax n0.out).2.2 m8;cases z4;obtain⟨z8,z9,B0,B5,B9⟩:=aI d8.out m8;cases z9
          replace B0:=hB HB B0;have C0:0≤(m8:Int):=oE aS
          have C1:(m8:Int) < ((m6.length:Int):Int):=oE aS
          obtain⟨C2,C3,C4,C6,C7,C8,C9⟩:=Kd.fu n0.out (by omega)
          (first|cases C4|(injection C4 with ea_ en_ ec_;(first|subst ea_|(injection ea_ with ea_;subst ea_));subst ec_;clear en_))
          have D4:=aM C6;have D5:=aM C9;clear C6 C7 C9;(first|simp only[add_plain] at z5|skip)
          obtain⟨D6,D7⟩:=Kd.bU 0 n0.out (m8:Int) C0 C1;replace C0:=eq_true C0;replace C1:=eq_true C1;have D8:=Kd.dX n0.out (m8:Int) (wrap64 ((wrap64 ((wrap64 ((rd m6 m8) - m7)) - (rd l1 m8)))+1000000000));go_wp2_with (first|((with_reducible refine bH (t:=3) (p:=54) rfl ?_);refine aZ (t:=3) (p:=54) (v:=?vo_w21) (w1:=(wr.setCell ⟨C2,(m8:Int).toNat,none⟩ (.int .i64 (wrap64 ((wrap64 ((wrap64 ((rd m6 m8) - m7)) - (rd l1 m8)))+1000000000))))) ?hg ?ho ?hn ?hr ?_;(case ho=>rfl);(case hg=>rfl);(case hn=>rfl);(case hr=>first|(go_simp;done)|(go_simp;rfl));intro D9 hw;have hg:wr.grownBy D9 (some C2):=(by rw[hw];exact D8.2);have hp_:rI D9 w (fun _=>True) (.slice (some ⟨C2,0,none⟩) m6.length m0) t7:=(by rw[hw,t9.out];exact D8.1);clear D8;replace n0:=aM (hp_);replace HB:=aM ((by rw[hw];exact cZ (HB.out) D4.out:bw w D9));clear hg hw hp_))
          (try simp only[← n7])
          go_roundg k2
          case measure=>have:=g9.out;have:=m9.out;omega
          case rel=>exact⟨(t7),(1),(wrap64 (m8+1)),sD,sD,H',⟨by have:=g9.out;have:=m9.out;omega⟩,⟨by(try simp only[n7]);(with_reducible repeat(first|apply Kd.fE|apply Kd.fo|apply Kd.eZ));exact n0.out⟩,⟨pB⟩⟩
         ·rw[if_neg t4] at H;have t5:decide ((wrap64 ((wrap64 ((rd m6 m8) - m7)) - (rd l1 m8))) < 0)=false:=decide_eq_false t4;have t6:decide ((IntKind.i64.wrap ((IntKind.i64.wrap ((rd m6 m8) - m7)) - (rd l1 m8))) < 0)=false:=by have h_:=t5;first|exact h_|(simp only[aH];exact h_)
          clear t4;obtain⟨E0,E1⟩:∃ y_:List Int,y_=(m6.set (m8:Int).toNat (wrap64 ((wrap64 ((rd m6 m8) - m7)) - (rd l1 m8)))):=⟨_,rfl⟩;replace H:(Dzm.l0 k2 l1 E0 0 (j8.length:Int) (wrap64 (m8+1)))=some (b4,b5):=yE E1 H
          have E2:=aM E1;clear E1;have H':=aM H;clear H;obtain⟨z3,z4,z5,z6,z7⟩:=aI (Kd.ax n0.out).2.2 m8;cases z4;obtain⟨z8,z9,B0,B5,B9⟩:=aI d8.out m8;cases z9
          replace B0:=hB HB B0;have E3:0≤(m8:Int):=oE aS
          have E4:(m8:Int) < ((m6.length:Int):Int):=oE aS
          obtain⟨E5,E6,E7,E8,E9,F0,F2⟩:=Kd.fu n0.out (by omega)
          (first|cases E7|(injection E7 with ea_ en_ ec_;(first|subst ea_|(injection ea_ with ea_;subst ea_));subst ec_;clear en_))
          have F3:=aM E8;have F4:=aM F2;clear E8 E9 F2;(first|simp only[add_plain] at z5|skip)
          obtain⟨F5,F6⟩:=Kd.bU 0 n0.out (m8:Int) E3 E4;replace E3:=eq_true E3;replace E4:=eq_true E4;have F7:=Kd.dX n0.out (m8:Int) (wrap64 ((wrap64 ((rd m6 m8) - m7)) - (rd l1 m8)));go_wp2_with (first|((with_reducible refine bH (t:=3) (p:=54) rfl ?_);refine aZ (t:=3) (p:=54) (v:=?vo_w24) (w1:=(wr.setCell ⟨E5,(m8:Int).toNat,none⟩ (.int .i64 (wrap64 ((wrap64 ((rd m6 m8) - m7)) - (rd l1 m8)))))) ?hg ?ho ?hn ?hr ?_;(case ho=>rfl);(case hg=>rfl);(case hn=>rfl);(case hr=>first|(go_simp;done)|(go_simp;rfl));intro F8 hw;have hg:wr.grownBy F8 (some E5):=(by rw[hw];exact F7.2);have hp_:rI F8 w (fun _=>True) (.slice (some ⟨E5,0,none⟩) m6.length m0) E0:=(by rw[hw,E2.out];exact F7.1);clear F7;replace n0:=aM (hp_);replace HB:=aM ((by rw[hw];exact cZ (HB.out) F3.out:bw w F8));clear hg hw hp_))
          (try simp only[← n7])
          go_roundg k2
          case measure=>have:=g9.out;have:=m9.out;omega
          case rel=>exact⟨(E0),(0),(wrap64 (m8+1)),sD,sD,H',⟨by have:=g9.out;have:=m9.out;omega⟩,⟨by(try simp only[n7]);(with_reducible repeat(first|apply Kd.fE|apply Kd.fo|apply Kd.eZ));exact n0.out⟩,⟨pB⟩⟩
        ·rw[if_neg r7] at H;have r8:decide (m8 < (l1.length:Int))=false:=decide_eq_false r7;have r9:=r8;(try simp only[n7] at r9)
         clear r7;by_cases F9:(wrap64 ((rd m6 m8) - m7)) < 0
         ·rw[if_pos F9] at H;have G5:decide ((wrap64 ((rd m6 m8) - m7)) < 0)=true:=dE F9;have G9:decide ((IntKind.i64.wrap ((rd m6 m8) - m7)) < 0)=true:=by have h_:=G5;first|exact h_|(simp only[aH];exact h_)
          clear F9;obtain⟨H5,H6⟩:∃ y_:List Int,y_=(m6.set (m8:Int).toNat (wrap64 ((wrap64 ((rd m6 m8) - m7))+1000000000))):=⟨_,rfl⟩;replace H:(Dzm.l0 k2 l1 H5 1 (j8.length:Int) (wrap64 (m8+1)))=some (b4,b5):=yE H6 H
          have H7:=aM H6;clear H6;have H':=aM H;clear H;obtain⟨z3,z4,z5,z6,z7⟩:=aI (Kd.ax n0.out).2.2 m8;cases z4;have H8:0≤(m8:Int):=oE aS
          have H9:(m8:Int) < ((m6.length:Int):Int):=oE aS
          obtain⟨I0,I3,I4,I5,I6,I7,I8⟩:=Kd.fu n0.out (by omega)
          (first|cases I4|(injection I4 with ea_ en_ ec_;(first|subst ea_|(injection ea_ with ea_;subst ea_));subst ec_;clear en_))
          have I9:=aM I5;have J0:=aM I8;clear I5 I6 I8;(first|simp only[add_plain] at z5|skip)
          obtain⟨J1,J2⟩:=Kd.bU 0 n0.out (m8:Int) H8 H9;replace H8:=eq_true H8;replace H9:=eq_true H9;have J3:=Kd.dX n0.out (m8:Int) (wrap64 ((wrap64 ((rd m6 m8) - m7))+1000000000));go_wp2_with (first|((with_reducible refine bH (t:=3) (p:=54) rfl ?_);refine aZ (t:=3) (p:=54) (v:=?vo_w28) (w1:=(wr.setCell ⟨I0,(m8:Int).toNat,none⟩ (.int .i64 (wrap64 ((wrap64 ((rd m6 m8) - m7))+1000000000))))) ?hg ?ho ?hn ?hr ?_;(case ho=>rfl);(case hg=>rfl);(case hn=>rfl);(case hr=>first|(go_simp;done)|(go_simp;rfl));intro J4 hw;have hg:wr.grownBy J4 (some I0):=(by rw[hw];exact J3.2);have hp_:rI J4 w (fun _=>True) (.slice (some ⟨I0,0,none⟩) m6.length m0) H5:=(by rw[hw,H7.out];exact J3.1);clear J3;replace n0:=aM (hp_);replace HB:=aM ((by rw[hw];exact cZ (HB.out) I9.out:bw w J4));clear hg hw hp_))
          (try simp only[← n7])
          go_roundg k2
          case measure=>have:=g9.out;have:=m9.out;omega
          case rel=>exact⟨(H5),(1),(wrap64 (m8+1)),sD,sD,H',⟨by have:=g9.out;have:=m9.out;omega⟩,⟨by(try simp only[n7]);(with_reducible repeat(first|apply Kd.fE|apply Kd.fo|apply Kd.eZ));exact n0.out⟩,⟨pB⟩⟩
         ·rw[if_neg F9] at H;have G5:decide ((wrap64 ((rd m6 m8) - m7)) < 0)=false:=decide_eq_false F9;have G9:decide ((IntKind.i64.wrap ((rd m6 m8) - m7)) < 0)=false:=by have h_:=G5;first|exact h_|(simp only[aH];exact h_)
          clear F9;obtain⟨J5,J6⟩:∃ y_:List Int,y_=(m6.set (m8:Int).toNat (wrap64 ((rd m6 m8) - m7))):=⟨_,rfl⟩;replace H:(Dzm.l0 k2 l1 J5 0 (j8.length:Int) (wrap64 (m8+1)))=some (b4,b5):=yE J6 H
          have J7:=aM J6;clear J6;have H':=aM H;clear H;obtain⟨z3,z4,z5,z6,z7⟩:=aI (Kd.ax n0.out).2.2 m8;cases z4;have J8:0≤(m8:Int):=oE aS
          have J9:(m8:Int) < ((m6.length:Int):Int):=oE aS
          obtain⟨K0,K1,K2,K3,K4,K5,K6⟩:=Kd.fu n0.out (by omega)
          (first|cases K2|(injection K2 with ea_ en_ ec_;(first|subst ea_|(injection ea_ with ea_;subst ea_));subst ec_;clear en_))
          have K7:=aM K3;have K8:=aM K6;clear K3 K4 K6;(first|simp only[add_plain] at z5|skip)
          obtain⟨K9,L0⟩:=Kd.bU 0 n0.out (m8:Int) J8 J9;replace J8:=eq_true J8;replace J9:=eq_true J9;have L8:=Kd.dX n0.out (m8:Int) (wrap64 ((rd m6 m8) - m7));go_wp2_with (first|((with_reducible refine bH (t:=3) (p:=54) rfl ?_);refine aZ (t:=3) (p:=54) (v:=?vo_w31) (w1:=(wr.setCell ⟨K0,(m8:Int).toNat,none⟩ (.int .i64 (wrap64 ((rd m6 m8) - m7))))) ?hg ?ho ?hn ?hr ?_;(case ho=>rfl);(case hg=>rfl);(case hn=>rfl);(case hr=>first|(go_simp;done)|(go_simp;rfl));intro L9 hw;have hg:wr.grownBy L9 (some K0):=(by rw[hw];exact L8.2);have hp_:rI L9 w (fun _=>True) (.slice (some ⟨K0,0,none⟩) m6.length m0) J5:=(by rw[hw,J7.out];exact L8.1);clear L8;replace n0:=aM (hp_);replace HB:=aM ((by rw[hw];exact cZ (HB.out) K7.out:bw w L9));clear hg hw hp_))
          (try simp only[← n7])
          go_roundg k2
          case measure=>have:=g9.out;have:=m9.out;omega
          case rel=>exact⟨(J5),(0),(wrap64 (m8+1)),sD,sD,H',⟨by have:=g9.out;have:=m9.out;omega⟩,⟨by(try simp only[n7]);(with_reducible repeat(first|apply Kd.fE|apply Kd.fo|apply Kd.eZ));exact n0.out⟩,⟨pB⟩⟩
       ·rw[if_neg n8] at H;have n9:decide (m8 < (j8.length:Int))=false:=decide_eq_false n8;have o0:=n9;(try simp only[n7] at o0)
        clear n8;replace H:=bS H;obtain⟨M0,M3,H⟩:=H;replace H:(some (M0,0))=some (b4,b5):=H;have M4:=aM M3;clear M3;obtain⟨rfl,rfl⟩:=q2 H;go_wp2_with (first|((with_reducible refine gc 92 rfl ?_);refine gC 92 (some 57) Try.func92 #[.slice l9 m6.length m0] ?_;(with_reducible refine(Bzy.calls k2 (fun k_=>some k_=(.slice l9 m6.length m0:Value).ownBlock) (.slice l9 m6.length m0) m6 M0 w _ ?_ ?_ M4.out).mono ?_);exact pB;exact Kd.dJ rfl n0.out;rintro e M5 ⟨M6,rfl,l7,hb,hkp⟩;refine⟨_,rfl,?_⟩;have M7:=aM (Kd.ah (ok':=fun k_=>True) l7 (fun k_ hk_=>trivial));replace HB:=aM (hb);clear n0 hb hkp l7))
        go_ret2
        exact⟨_,eW,rX M7.out,pB⟩



end Go.Proofs.Ytbnpcplckcipfaa.Print
