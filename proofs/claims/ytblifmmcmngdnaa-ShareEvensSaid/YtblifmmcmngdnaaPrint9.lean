import Derived.Test.YtblifmmcmngdnaaPrint0
import Derived.Test.YtblifmmcmngdnaaPrint5
namespace Go.Proofs.Ytblifmmcmngdnaa.Print
open Go.RowKit Go.Proofs.YtblifmmcmngdnaaW.PrintWords Go.Proofs.YtblifmmcmngdnaaW.PrintLast Go.Proofs.YtblifmmcmngdnaaW.PrintMore
attribute [local go_sem] max2_int min2_int max_two min_two max_three min_three max_four min_four
set_option linter.unusedVariables false
set_option maxRecDepth 100000
set_option linter.unusedSimpArgs false

mutual
def Azz.l0:Nat→List Int→Int→Int→Int→List (List Int)→Option (List Int)
 | 0,_,_,_,_,_=>none
 | k+1,x0,x1,x10,x11,x940=>if x10 < x11 then(if 0≤(wrap64 ((IntKind.u64.wrap (wrap64 (x10+x11))) / 2)) then(if(wrap64 ((IntKind.u64.wrap (wrap64 (x10+x11))) / 2)) < (x0.length:Int) then(if 0≤x1 then(if x1 < (x0.length:Int) then((Czj.f (rd x0 (wrap64 ((IntKind.u64.wrap (wrap64 (x10+x11))) / 2))) (rd x0 x1) x940).bind fun t176=>(if t176 < 0 then(Azz.l0 k x0 x1 (wrap64 ((wrap64 ((IntKind.u64.wrap (wrap64 (x10+x11))) / 2))+1)) x11 x940) else(Azz.l0 k x0 x1 x10 (wrap64 ((IntKind.u64.wrap (wrap64 (x10+x11))) / 2)) x940))) else(none)) else(none)) else(none)) else(none)) else(Azz.l1 k x0 x10 x1)
def Azz.l1:Nat→List Int→Int→Int→Option (List Int)
 | 0,_,_,_=>none
 | k+1,x0,x10,x13=>if x13 < (wrap64 (x10 - 1)) then(if 0≤(wrap64 (x13+1)) then(if(wrap64 (x13+1)) < (x0.length:Int) then(if 0≤x13 then(if x13 < (x0.length:Int) then(Azz.l1 k ((x0.set (x13:Int).toNat (rd x0 (wrap64 (x13+1)))).set ((wrap64 (x13+1)):Int).toNat (rd x0 x13)) x10 (wrap64 (x13+1))) else(none)) else(none)) else(none)) else(none)) else(some x0)
def Azz.l2:Nat→List Int→Int→Int→Int→List (List Int)→Option (List Int)
 | 0,_,_,_,_,_=>none
 | k+1,x0,x2,x14,x15,x940=>if x14 < x15 then(if 0≤x2 then(if x2 < (x0.length:Int) then(if 0≤(wrap64 ((IntKind.u64.wrap (wrap64 (x14+x15))) / 2)) then(if(wrap64 ((IntKind.u64.wrap (wrap64 (x14+x15))) / 2)) < (x0.length:Int) then((Czj.f (rd x0 x2) (rd x0 (wrap64 ((IntKind.u64.wrap (wrap64 (x14+x15))) / 2))) x940).bind fun t183=>(if t183 < 0 then(Azz.l2 k x0 x2 x14 (wrap64 ((IntKind.u64.wrap (wrap64 (x14+x15))) / 2)) x940) else(Azz.l2 k x0 x2 (wrap64 ((wrap64 ((IntKind.u64.wrap (wrap64 (x14+x15))) / 2))+1)) x15 x940))) else(none)) else(none)) else(none)) else(none)) else(Azz.l3 k x0 x14 x2)
def Azz.l3:Nat→List Int→Int→Int→Option (List Int)
 | 0,_,_,_=>none
 | k+1,x0,x14,x17=>if x17 > x14 then(if 0≤(wrap64 (x17 - 1)) then(if(wrap64 (x17 - 1)) < (x0.length:Int) then(if 0≤x17 then(if x17 < (x0.length:Int) then(Azz.l3 k ((x0.set (x17:Int).toNat (rd x0 (wrap64 (x17 - 1)))).set ((wrap64 (x17 - 1)):Int).toNat (rd x0 x17)) x14 (wrap64 (x17 - 1))) else(none)) else(none)) else(none)) else(none)) else(some x0)
def Azz.j4:Nat→List Int→Int→Int→Int→Int→Int→Int→Int→List (List Int)→Option (List Int)
 | 0,_,_,_,_,_,_,_,_,_=>none
 | k+1,x0,x1,x2,x3,x18,x19,x20,x21,x940=>Azz.l4 k x0 x1 x2 x3 x18 x19 x20 x21 (wrap64 (x19 - 1)) x940
def Azz.l4:Nat→List Int→Int→Int→Int→Int→Int→Int→Int→Int→List (List Int)→Option (List Int)
 | 0,_,_,_,_,_,_,_,_,_,_=>none
 | k+1,x0,x1,x2,x3,x18,x19,x20,x21,x22,x940=>if x20 < x21 then(if 0≤(wrap64 (x22 - (wrap64 ((IntKind.u64.wrap (wrap64 (x20+x21))) / 2)))) then(if(wrap64 (x22 - (wrap64 ((IntKind.u64.wrap (wrap64 (x20+x21))) / 2)))) < (x0.length:Int) then(if 0≤(wrap64 ((IntKind.u64.wrap (wrap64 (x20+x21))) / 2)) then(if(wrap64 ((IntKind.u64.wrap (wrap64 (x20+x21))) / 2)) < (x0.length:Int) then((Czj.f (rd x0 (wrap64 (x22 - (wrap64 ((IntKind.u64.wrap (wrap64 (x20+x21))) / 2))))) (rd x0 (wrap64 ((IntKind.u64.wrap (wrap64 (x20+x21))) / 2))) x940).bind fun t190=>(if t190 < 0 then(Azz.l4 k x0 x1 x2 x3 x18 x19 x20 (wrap64 ((IntKind.u64.wrap (wrap64 (x20+x21))) / 2)) x22 x940) else(Azz.l4 k x0 x1 x2 x3 x18 x19 (wrap64 ((wrap64 ((IntKind.u64.wrap (wrap64 (x20+x21))) / 2))+1)) x21 x22 x940))) else(none)) else(none)) else(none)) else(none)) else(if x20 < x2 then(Azz.j6 k x0 x1 x2 x3 x18 x20 (wrap64 (x19 - x20)) (decide (x2 < (wrap64 (x19 - x20)))) x940) else(Azz.j6 k x0 x1 x2 x3 x18 x20 (wrap64 (x19 - x20)) false x940))
def Azz.j6:Nat→List Int→Int→Int→Int→Int→Int→Int→Bool→List (List Int)→Option (List Int)
 | 0,_,_,_,_,_,_,_,_,_=>none
 | k+1,x0,x1,x2,x3,x18,x20,x24,x185,x940=>if x185=true then((Azk.f k x0 x20 x2 x24 x940).bind fun t191=>(Azz.j7 k t191 x1 x3 x18 x20 x24 x940)) else(Azz.j7 k x0 x1 x3 x18 x20 x24 x940)
def Azz.j7:Nat→List Int→Int→Int→Int→Int→Int→List (List Int)→Option (List Int)
 | 0,_,_,_,_,_,_,_=>none
 | k+1,x0,x1,x3,x18,x20,x24,x940=>if x1 < x20 then(Azz.j8 k x0 x1 x3 x18 x20 x24 (decide (x20 < x18)) x940) else(Azz.j8 k x0 x1 x3 x18 x20 x24 false x940)
def Azz.j8:Nat→List Int→Int→Int→Int→Int→Int→Bool→List (List Int)→Option (List Int)
 | 0,_,_,_,_,_,_,_,_=>none
 | k+1,x0,x1,x3,x18,x20,x24,x199,x940=>if x199=true then((Azz.f k x0 x1 x20 x18 x940).bind fun t192=>(if x18 < x24 then(if x24 < x3 then((Azz.f k t192 x18 x24 x3 x940).bind fun t193=>(some t193)) else(some t192)) else(some t192))) else(if x18 < x24 then(if x24 < x3 then((Azz.f k x0 x18 x24 x3 x940).bind fun t194=>(some t194)) else(some x0)) else(some x0))
def Azz.f:Nat→List Int→Int→Int→Int→List (List Int)→Option (List Int)
 | 0,_,_,_,_,_=>none
 | k+1,l0,a1,a2,a3,l4_0=>if(wrap64 (a2 - a1))=1 then(Azz.l0 k l0 a1 a2 a3 l4_0) else(if(wrap64 (a3 - a2))=1 then(Azz.l2 k l0 a2 a1 a2 l4_0) else(if a2 > (wrap64 ((IntKind.u64.wrap (wrap64 (a1+a3))) / 2)) then(Azz.j4 k l0 a1 a2 a3 (wrap64 ((IntKind.u64.wrap (wrap64 (a1+a3))) / 2)) (wrap64 ((wrap64 ((IntKind.u64.wrap (wrap64 (a1+a3))) / 2))+a2)) (wrap64 ((wrap64 ((wrap64 ((IntKind.u64.wrap (wrap64 (a1+a3))) / 2))+a2)) - a3)) (wrap64 ((IntKind.u64.wrap (wrap64 (a1+a3))) / 2)) l4_0) else(Azz.j4 k l0 a1 a2 a3 (wrap64 ((IntKind.u64.wrap (wrap64 (a1+a3))) / 2)) (wrap64 ((wrap64 ((IntKind.u64.wrap (wrap64 (a1+a3))) / 2))+a2)) a1 a2 l4_0)))
end
theorem Azz.mono_l:∀ k,(∀ a5 a6 a7 a8 a9,LeO (Azz.f k a5 a6 a7 a8 a9) (Azz.f (k+1) a5 a6 a7 a8 a9))∧(∀ a5 a6 a7 a8 a9,LeO (Azz.l0 k a5 a6 a7 a8 a9) (Azz.l0 (k+1) a5 a6 a7 a8 a9))∧(∀ a5 a6 a7,LeO (Azz.l1 k a5 a6 a7) (Azz.l1 (k+1) a5 a6 a7))∧(∀ a5 a6 a7 a8 a9,LeO (Azz.l2 k a5 a6 a7 a8 a9) (Azz.l2 (k+1) a5 a6 a7 a8 a9))∧(∀ a5 a6 a7,LeO (Azz.l3 k a5 a6 a7) (Azz.l3 (k+1) a5 a6 a7))∧(∀ a5 a6 a7 a8 a9 b3 b4 b5 b6,LeO (Azz.j4 k a5 a6 a7 a8 a9 b3 b4 b5 b6) (Azz.j4 (k+1) a5 a6 a7 a8 a9 b3 b4 b5 b6))∧(∀ a5 a6 a7 a8 a9 b3 b4 b5 b6 b7,LeO (Azz.l4 k a5 a6 a7 a8 a9 b3 b4 b5 b6 b7) (Azz.l4 (k+1) a5 a6 a7 a8 a9 b3 b4 b5 b6 b7))∧(∀ a5 a6 a7 a8 a9 b3 b4 b5 b6,LeO (Azz.j6 k a5 a6 a7 a8 a9 b3 b4 b5 b6) (Azz.j6 (k+1) a5 a6 a7 a8 a9 b3 b4 b5 b6))∧(∀ a5 a6 a7 a8 a9 b3 b4,LeO (Azz.j7 k a5 a6 a7 a8 a9 b3 b4) (Azz.j7 (k+1) a5 a6 a7 a8 a9 b3 b4))∧(∀ a5 a6 a7 a8 a9 b3 b4 b5,LeO (Azz.j8 k a5 a6 a7 a8 a9 b3 b4 b5) (Azz.j8 (k+1) a5 a6 a7 a8 a9 b3 b4 b5))
 | 0=>⟨fun _ _ _ _ _ r h=>by simp [Azz.f] at h,fun _ _ _ _ _ r h=>by simp [Azz.l0] at h,fun _ _ _ r h=>by simp [Azz.l1] at h,fun _ _ _ _ _ r h=>by simp [Azz.l2] at h,fun _ _ _ r h=>by simp [Azz.l3] at h,fun _ _ _ _ _ _ _ _ _ r h=>by simp [Azz.j4] at h,fun _ _ _ _ _ _ _ _ _ _ r h=>by simp [Azz.l4] at h,fun _ _ _ _ _ _ _ _ _ r h=>by simp [Azz.j6] at h,fun _ _ _ _ _ _ _ r h=>by simp [Azz.j7] at h,fun _ _ _ _ _ _ _ _ r h=>by simp [Azz.j8] at h⟩
 | k+1=>by
  obtain⟨ih0,ih1,ih2,ih3,ih4,ih5,ih6,ih7,ih8,ih9⟩:=Azz.mono_l k;have i0:=@Azk.mono;refine⟨?_,?_,?_,?_,?_,?_,?_,?_,?_,?_⟩
  ·intro a5 a6 a7 a8 a9;unfold Azz.f;exact mM
  ·intro a5 a6 a7 a8 a9;unfold Azz.l0;exact mM
  ·intro a5 a6 a7;unfold Azz.l1;exact mM
  ·intro a5 a6 a7 a8 a9;unfold Azz.l2;exact mM
  ·intro a5 a6 a7;unfold Azz.l3;exact mM
  ·intro a5 a6 a7 a8 a9 b3 b4 b5 b6;unfold Azz.j4;exact mM
  ·intro a5 a6 a7 a8 a9 b3 b4 b5 b6 b7;unfold Azz.l4;exact mM
  ·intro a5 a6 a7 a8 a9 b3 b4 b5 b6;unfold Azz.j6;exact mM
  ·intro a5 a6 a7 a8 a9 b3 b4;unfold Azz.j7;exact mM
  ·intro a5 a6 a7 a8 a9 b3 b4 b5;unfold Azz.j8;exact mM
theorem Azz.mono:∀ a5 a6 a7 a8 a9 k,LeO (Azz.f k a5 a6 a7 a8 a9) (Azz.f (k+1) a5 a6 a7 a8 a9):=by
 intro a5 a6 a7 a8 a9 k;obtain⟨ih0,ih1,ih2,ih3,ih4,ih5,ih6,ih7,ih8,ih9⟩:=Azz.mono_l k;exact ih0 a5 a6 a7 a8 a9
def Azz.T5:Bool × List (List Nat × List Nat):=(true,[([],[]),([],[]),([],[]),([1,2],[1,2]),([3],[3]),([],[]),([],[]),([5,6],[5,6]),([7],[7]),([0,4,8],[0,4,8]),([9],[9])])
def Azz.B5:List Nat:=[0,0,0,6,14,0,0,96,224,511,1023]
theorem Azz.tab5:rtab .any (opsOf Try.f36 5)=Azz.T5:=by kernel_rfl
theorem Azz.bits5:waitsOk Azz.T5.2 Azz.B5=true:=by kernel_rfl
def Azz.T11:Bool × List (List Nat × List Nat):=(true,[([],[]),([],[]),([],[]),([],[]),([3],[3]),([],[]),([],[]),([6],[6]),([5,7],[5,7]),([8],[8]),([],[]),([],[]),([10,11],[10,11]),([12],[12]),([0,1,0,1,5,6,7,8,9,13],[0,1]),([14,9,0,1,5,6,7,8,9,13],[9,14]),([2,4,0,1,2,3,4,5,6,7,8,9,10,11,12,13,14,15],[2,4]),([16,13,15,0,1,2,3,4,5,6,7,8,9,10,11,12,13,14,15],[13,16])])
def Azz.B11:List Nat:=[0,0,0,0,8,0,0,64,224,480,0,0,3072,7168,16355,32739,65535,131071]
theorem Azz.tab11:rtab .any (opsOf Try.f36 11)=Azz.T11:=by kernel_rfl
theorem Azz.bits11:waitsOk Azz.T11.2 Azz.B11=true:=by kernel_rfl
def Azz.T17:Bool × List (List Nat × List Nat):=(true,[([],[]),([],[]),([],[]),([1,2],[1,2]),([3],[3]),([],[]),([],[]),([5,6],[5,6]),([7],[7]),([0,4,8],[0,4,8]),([9],[9]),([10],[10])])
def Azz.B17:List Nat:=[0,0,0,6,14,0,0,96,224,511,1023,2047]
theorem Azz.tab17:rtab .any (opsOf Try.f36 17)=Azz.T17:=by kernel_rfl
theorem Azz.bits17:waitsOk Azz.T17.2 Azz.B17=true:=by kernel_rfl
def Azz.T23:Bool × List (List Nat × List Nat):=(true,[([],[]),([],[]),([],[]),([],[]),([3],[3]),([],[]),([],[]),([6],[6]),([5,7],[5,7]),([8],[8]),([],[]),([],[]),([10,11],[10,11]),([12],[12]),([0,1,0,1,5,6,7,8,9,13],[0,1]),([14,9,0,1,5,6,7,8,9,13],[9,14]),([2,4,0,1,2,3,4,5,6,7,8,9,10,11,12,13,14,15],[2,4]),([16,13,15,0,1,2,3,4,5,6,7,8,9,10,11,12,13,14,15],[13,16])])
def Azz.B23:List Nat:=[0,0,0,0,8,0,0,64,224,480,0,0,3072,7168,16355,32739,65535,131071]
theorem Azz.tab23:rtab .any (opsOf Try.f36 23)=Azz.T23:=by kernel_rfl
theorem Azz.bits23:waitsOk Azz.T23.2 Azz.B23=true:=by kernel_rfl
def Azz.T35:Bool × List (List Nat × List Nat):=(true,[([],[]),([],[]),([],[]),([],[]),([2,3],[2,3]),([1,4],[1,4]),([5],[5]),([],[]),([],[]),([7,8],[7,8]),([9],[9]),([0,6,10],[0,6,10]),([11],[11]),([12],[12])])
def Azz.B35:List Nat:=[0,0,0,0,12,30,62,0,0,384,896,2047,4095,8191]
theorem Azz.tab35:rtab .any (opsOf Try.f36 35)=Azz.T35:=by kernel_rfl
theorem Azz.bits35:waitsOk Azz.T35.2 Azz.B35=true:=by kernel_rfl
set_option maxHeartbeats 64000000 in
theorem Azz.calls (k:Nat):∀ (a5:Nat→Prop) (u9000_:Value) (l0:List Int) (a6:Int) (a7:Int) (a8:Int) (a9:Option Addr) (b3:Nat) (b4:List (List Int)) (r:List Int) (b5 w:World) (hB:Below b5.heap.size b5 w) (b6:Kd.R (Kd.int .i64) 3 w b5.heap.size a5 u9000_ l0) (b7:∀ W_,Kept w W_ (fun k_=>a5 k_)→Kd.C (Kd.slice 3 (Kd.int .i64)) W_ a9 b4.length b4) (b8:b4.length≤b3) (h:Azz.f k l0 a6 a7 a8 b4=some r),
  Calls Try.prog 36 #[u9000_,.int .i64 a6,.int .i64 a7,.int .i64 a8,.func (.func 16) #[] #[.pointer a9]] w fun e w'=>e=.returned (.tuple #[])∧Kd.R (Kd.int .i64) 3 w' b5.heap.size (fun k_=>(a5 k_∨w.heap.size≤k_)) u9000_ r∧Below b5.heap.size b5 w'∧Kept w w' (fun k_=>a5 k_):=by
 induction k using Nat.strongRecOn with
 | _ k ih =>
 intro a5 u9000_ l0 a6 a7 a8 a9 b3 b4 r b5 w hB b6 b7 b8 h;cases k with
 | zero=>exact absurd h (by simp [Azz.f])
 | succ k =>
 simp only[Azz.f] at h;have b9:=aM (show Kd.R (Kd.int .i64) 3 w b5.heap.size (fun k_=>(a5 k_∨w.heap.size≤k_)) u9000_ l0 from Kd.R_mono b6 (fun k_ hk=>(.inl hk)))
 have d0:=aM b7;have d3:=aM b8;clear b7 b8;have HK:=aM (Kept.refl w (fun k_=>a5 k_))
 have HW0:=aM hB.size;have HB:=aM hB;clear hB;have H:(if(wrap64 (a7 - a6))=1 then(Azz.l0 k l0 a6 a7 a8 b4) else(if(wrap64 (a8 - a7))=1 then(Azz.l2 k l0 a7 a6 a7 b4) else(if a7 > (wrap64 ((IntKind.u64.wrap (wrap64 (a6+a8))) / 2)) then(Azz.j4 k l0 a6 a7 a8 (wrap64 ((IntKind.u64.wrap (wrap64 (a6+a8))) / 2)) (wrap64 ((wrap64 ((IntKind.u64.wrap (wrap64 (a6+a8))) / 2))+a7)) (wrap64 ((wrap64 ((wrap64 ((IntKind.u64.wrap (wrap64 (a6+a8))) / 2))+a7)) - a8)) (wrap64 ((IntKind.u64.wrap (wrap64 (a6+a8))) / 2)) b4) else(Azz.j4 k l0 a6 a7 a8 (wrap64 ((IntKind.u64.wrap (wrap64 (a6+a8))) / 2)) (wrap64 ((wrap64 ((IntKind.u64.wrap (wrap64 (a6+a8))) / 2))+a7)) a6 a7 b4))))=some r:=h
 clear h;by_cases c6:(wrap64 (a7 - a6))=1
 ·rw[if_pos c6] at H;obtain⟨d4,d5⟩:=bE c6;clear c6;have H':=aM H;clear H;go_enter Try.func36,Try.ntmps36
  go_wp2
  go_loopg [10,11] k (fun kq d6 d7 w'=>∃ (d8:Int) (d9:Int),d6=.int .i64 d8∧d7=.int .i64 d9∧Aside0 (Azz.l0 kq l0 a6 d8 d9 b4=some r)∧Aside0 (kq≤k)∧Aside0 (Kd.R (Kd.int .i64) 3 w' b5.heap.size (fun k_=>(a5 k_∨w.heap.size≤k_)) u9000_ l0)∧Aside0 (Kept w w' (fun k_=>a5 k_))∧Aside0 (Below b5.heap.size b5 w'))
  case atStart=>exact⟨(a7),(a8),sD,sD,H',⟨Nat.le_refl _⟩,⟨rX b9.out⟩,⟨kK HK⟩,⟨pB⟩⟩
  case round =>
   clear H';try clear p2
   obtain⟨d8,d9,rfl,rfl,HA,e0,e8,HK,HB⟩:=hrel;cases gk with
   | zero=>exact absurd HA.out (by simp [Azz.l0])
   | succ k1 =>
    have H:=HA.out;clear HA;simp only[Azz.l0] at H;by_cases c7:d8 < d9
    ·rw[if_pos c7] at H;have f2:=dE c7;clear c7;obtain⟨f3,f4⟩:∃ j_:Int,(wrap64 ((IntKind.u64.wrap (wrap64 (d8+d9))) / 2))=j_:=⟨_,rfl⟩;replace H:(if 0≤(f3) then(if(f3) < (l0.length:Int) then(if 0≤a6 then(if a6 < (l0.length:Int) then((Czj.f (rd l0 (f3)) (rd l0 a6) b4).bind fun f5=>(if f5 < 0 then(Azz.l0 k1 l0 a6 (wrap64 ((f3)+1)) d9 b4) else(Azz.l0 k1 l0 a6 d8 f3 b4))) else(none)) else(none)) else(none)) else(none))=some r:=by first|(rw[f4] at H;exact H)|(simp only[f4] at H ⊢;exact H)
     have f6:(IntKind.i64.wrap ((IntKind.u64.wrap (wrap64 (d8+d9))) / 2))=f3:=(i64_w _).trans f4;obtain⟨f7,H⟩:=iN H;obtain⟨f9,H⟩:=iN H;obtain⟨g4,H⟩:=iN H;obtain⟨g5,H⟩:=iN H;obtain⟨f5,g6,H⟩:=bT H;(try dsimp only at H);by_cases g7:f5 < 0
     ·rw[if_pos g7] at H;have g8:=dE g7;clear g7;have H':=aM H;clear H;try go_wp2
      have n0_:=aM (Kd.R_drew e8.out);have n1_:=aM (Kept.drew HK.out);have n2_:=aM (below_drew1 HB.out);clear e8 HK HB;have e8:=n0_;have HK:=n1_;have HB:=n2_;clear n0_ n1_ n2_;obtain⟨g9,j2,j3⟩:=Kd.R_slice e8.out;(first|subst j3|(injection j3 with f1_ f2_ f3_;have f4_:=f1_.symm;have f5_:=f3_.symm;clear f1_ f2_ f3_;subst f4_;subst f5_))
      obtain⟨j5,j9,l5,l6,l7⟩:=aI (Kd.R_reads' e8.out).2.2 (f3);cases j9;obtain⟨l8,l9,m0,m4,m5⟩:=aI (Kd.R_reads' e8.out).2.2 a6;obtain rfl:j5=l8:=(by injection l9);refine start_ (n:=11) (S:=fun w'=>w'.cell? (j5.add ((f3)).toNat)=some (.int .i64 (rd l0 (f3)))∧w'.cell? (j5.add (a6).toNat)=some (.int .i64 (rd l0 a6))) (ds:=[]) (bA 11 0) (by kernel_rfl) rfl rfl ⟨l5,m0⟩ (fun hHeld=>?_);refine with_tabW Azz.tab5 Azz.bits5 (fun HT_ HW_=>?_)
      generalize wr.drew=m6 at e8 HK HB l5 m0 hHeld ⊢;refine pS 0 40 HT_ ?_;refine pS 1 41 HT_ ?_;refine pS 2 42 HT_ ?_;refine pS 3 43 HT_ ?_;refine pS 5 45 HT_ ?_;refine pS 6 46 HT_ ?_;refine pS 7 47 HT_ ?_;refine tU 4 44 HT_ HW_ hHeld ?_;refine tU 8 48 HT_ HW_ hHeld ?_;refine oU 9 (some 49) HT_ fun K hK=>?_
      refine goesv_ Try.func16 (by kernel_rfl) rfl #[.int .i64 (rd l0 (f3)),.int .i64 (rd l0 a6),.pointer a9] (by rfl) rfl rfl (by(try simp only[List.map_toArray,List.map_cons,List.map_nil]);first|done|(simp only[f4];rfl)|rfl|(simp only[List.length_drop,List.length_take];rfl)) ?_
      with_reducible refine(Czj.calls (rd l0 (f3)) (rd l0 a6) _ b3 b4 f5 _ ?side1 ?side2 g6.out).mono ?_
      (case side1=>exact Kd.C_kept_now d0.out (kK HK))
      (case side2=>exact d3.out)
      rintro e w' ⟨rfl,⟨nd,rfl⟩⟩;refine⟨_,rfl,?_⟩;refine hK.out _ _ ⟨hHeld.1,hHeld.2⟩ (fun hHeld=>?_)
      clear hK K;refine nm 49 ?_;refine pS 10 50 HT_ ?_;refine done_ (done_of HT_.out (by kernel_rfl)) ?_
      try go_wp2
      go_roundg k1
      case measure=>have:=e0.out;omega
      case rel=>exact⟨(wrap64 ((f3)+1)),(d9),(by first|rfl|(simp;done)|(simp only[← f4] <;> (first|rfl|simp))|(simp [*];done)),sD,H',⟨by have:=e0.out;omega⟩,⟨rX e8.out⟩,⟨kK HK⟩,⟨pB⟩⟩
     ·rw[if_neg g7] at H;have g8:decide (f5 < 0)=false:=decide_eq_false g7;clear g7;have H':=aM H;clear H;try go_wp2
      have n0_:=aM (Kd.R_drew e8.out);have n1_:=aM (Kept.drew HK.out);have n2_:=aM (below_drew1 HB.out);clear e8 HK HB;have e8:=n0_;have HK:=n1_;have HB:=n2_;clear n0_ n1_ n2_;obtain⟨m7,m8,m9⟩:=Kd.R_slice e8.out;(first|subst m9|(injection m9 with f1_ f2_ f3_;have f4_:=f1_.symm;have f5_:=f3_.symm;clear f1_ f2_ f3_;subst f4_;subst f5_))
      obtain⟨j5,j9,l5,l6,l7⟩:=aI (Kd.R_reads' e8.out).2.2 (f3);cases j9;obtain⟨l8,l9,m0,m4,m5⟩:=aI (Kd.R_reads' e8.out).2.2 a6;obtain rfl:j5=l8:=(by injection l9);refine start_ (n:=11) (S:=fun w'=>w'.cell? (j5.add ((f3)).toNat)=some (.int .i64 (rd l0 (f3)))∧w'.cell? (j5.add (a6).toNat)=some (.int .i64 (rd l0 a6))) (ds:=[]) (bA 11 0) (by kernel_rfl) rfl rfl ⟨l5,m0⟩ (fun hHeld=>?_);refine with_tabW Azz.tab5 Azz.bits5 (fun HT_ HW_=>?_)
      generalize wr.drew=n0 at e8 HK HB l5 m0 hHeld ⊢;refine pS 0 40 HT_ ?_;refine pS 1 41 HT_ ?_;refine pS 2 42 HT_ ?_;refine pS 3 43 HT_ ?_;refine pS 5 45 HT_ ?_;refine pS 6 46 HT_ ?_;refine pS 7 47 HT_ ?_;refine tU 4 44 HT_ HW_ hHeld ?_;refine tU 8 48 HT_ HW_ hHeld ?_;refine oU 9 (some 49) HT_ fun K hK=>?_
      refine goesv_ Try.func16 (by kernel_rfl) rfl #[.int .i64 (rd l0 (f3)),.int .i64 (rd l0 a6),.pointer a9] (by rfl) rfl rfl (by(try simp only[List.map_toArray,List.map_cons,List.map_nil]);first|done|(simp only[f4];rfl)|rfl|(simp only[List.length_drop,List.length_take];rfl)) ?_
      with_reducible refine(Czj.calls (rd l0 (f3)) (rd l0 a6) _ b3 b4 f5 _ ?side1 ?side2 g6.out).mono ?_
      (case side1=>exact Kd.C_kept_now d0.out (kK HK))
      (case side2=>exact d3.out)
      rintro e w' ⟨rfl,⟨nd,rfl⟩⟩;refine⟨_,rfl,?_⟩;refine hK.out _ _ ⟨hHeld.1,hHeld.2⟩ (fun hHeld=>?_)
      clear hK K;refine nm 49 ?_;refine pS 10 50 HT_ ?_;refine done_ (done_of HT_.out (by kernel_rfl)) ?_
      try go_wp2
      go_roundg k1
      case measure=>have:=e0.out;omega
      case rel=>exact⟨(d8),(f3),sD,(by first|rfl|(simp;done)|(simp only[← f4] <;> (first|rfl|simp))|(simp [*];done)),H',⟨by have:=e0.out;omega⟩,⟨rX e8.out⟩,⟨kK HK⟩,⟨pB⟩⟩
    ·rw[if_neg c7] at H;have f2:decide (d8 < d9)=false:=decide_eq_false c7;clear c7;have H':=aM H;clear H;go_wp2
     go_loopg [13] k1 (fun kq n1 w'=>∃ (n2:List Int) (n3:Int),n1=.int .i64 n3∧Aside0 (Azz.l1 kq n2 d8 n3=some r)∧Aside0 (kq≤k1)∧Aside0 (Kd.R (Kd.int .i64) 3 w' b5.heap.size (fun k_=>(a5 k_∨w.heap.size≤k_)) u9000_ n2)∧Aside0 (Kept w w' (fun k_=>a5 k_))∧Aside0 (Below b5.heap.size b5 w'))
     case atStart=>exact⟨(l0),(a6),sD,H',⟨Nat.le_refl _⟩,⟨rX e8.out⟩,⟨kK HK⟩,⟨pB⟩⟩
     case round =>
      clear H';try clear n4
      obtain⟨n2,n3,rfl,HA,n5,e8,HK,HB⟩:=hrel;cases gk with
      | zero=>exact absurd HA.out (by simp [Azz.l1])
      | succ k2 =>
       have H:=HA.out;clear HA;simp only[Azz.l1] at H;by_cases n6:n3 < (wrap64 (d8 - 1))
       ·rw[if_pos n6] at H;have n7:=dE n6;have n8:decide (n3 < (IntKind.i64.wrap (d8 - 1)))=true:=by have h_:=n7;first|exact h_|(simp only[i64_w];exact h_)
        clear n6;obtain⟨n9,o0⟩:∃ j_:Int,(wrap64 (n3+1))=j_:=⟨_,rfl⟩;replace H:(if 0≤(n9) then(if(n9) < (n2.length:Int) then(if 0≤n3 then(if n3 < (n2.length:Int) then(Azz.l1 k2 ((n2.set (n3:Int).toNat (rd n2 (n9))).set ((n9):Int).toNat (rd n2 n3)) d8 n9) else(none)) else(none)) else(none)) else(none))=some r:=by first|(rw[o0] at H;exact H)|(simp only[o0] at H ⊢;exact H)
        have o1:(IntKind.i64.wrap (n3+1))=n9:=(i64_w _).trans o0;obtain⟨o2,H⟩:=iN H;obtain⟨o3,H⟩:=iN H;obtain⟨o4,H⟩:=iN H;obtain⟨o5,H⟩:=iN H;obtain⟨o6,o7⟩:∃ y_:List Int,y_=(n2.set (n3:Int).toNat (rd n2 (n9))):=⟨_,rfl⟩;replace H:(Azz.l1 k2 (o6.set ((n9):Int).toNat (rd n2 n3)) d8 n9)=some r:=yE o7 H
        have o8:=aM o7;clear o7;obtain⟨o9,p0⟩:∃ y_:List Int,y_=(o6.set ((n9):Int).toNat (rd n2 n3)):=⟨_,rfl⟩;replace H:(Azz.l1 k2 o9 d8 n9)=some r:=yE p0 H
        have p3:=aM p0;clear p0;have H':=aM H;clear H;try go_wp2
        have n0_:=aM (Kd.R_drew e8.out);have n1_:=aM (Kept.drew HK.out);have n2_:=aM (below_drew1 HB.out);clear e8 HK HB;have e8:=n0_;have HK:=n1_;have HB:=n2_;clear n0_ n1_ n2_;obtain⟨p4,p7,p8⟩:=Kd.R_slice e8.out;(first|subst p8|(injection p8 with f1_ f2_ f3_;have f4_:=f1_.symm;have f5_:=f3_.symm;clear f1_ f2_ f3_;subst f4_;subst f5_))
        obtain⟨p9,r0,r4,r5,r6⟩:=aI (Kd.R_reads' e8.out).2.2 (n9);cases r0;obtain⟨r7,r8,r9,t0,t1⟩:=aI (Kd.R_reads' e8.out).2.2 n3;obtain rfl:p9=r7:=(by injection r8);have t2:0≤(n3:Int):=oE aS
        have t3:(n3:Int) < ((n2.length:Int):Int):=oE aS
        obtain⟨t4,t5,t6,t7,t8,t9,v2⟩:=Kd.R_form e8.out (by omega)
        (first|cases t6|(injection t6 with ea_ en_ ec_;(first|subst ea_|(injection ea_ with ea_;subst ea_));subst ec_;clear en_))
        have v3:=aM t7;have z3:=aM v2;clear t7 t8 v2;have HMgo25:=aM (show(a5 t4∨w.heap.size≤t4) from(e8.out.1 _ rfl))
        (first|simp only[add_plain] at r4|skip)
        (first|simp only[add_plain] at r9|skip)
        obtain⟨z4,z5⟩:=Kd.R_celln 0 e8.out (n3:Int) t2 t3;replace t2:=eq_true t2;replace t3:=eq_true t3;have z6:=Kd.R_putn e8.out (n3:Int) (rd n2 (n9));rw[← o8.out] at z6;have z7:=aM z6;clear z6;obtain⟨z8,z9⟩:=Kd.R_celln 0 z7.out ((n9):Int) (oE aS) (oE aS);have B0:=eT ((n9));have B1:=eU ((n9)) n2.length;have B2:=Kd.R_putn z7.out ((n9):Int) (rd n2 n3);rw[← p3.out] at B2;have B7:=aM B2;clear B2;refine start_ (n:=18) (S:=fun w'=>w'.cell? ⟨t4,((n9)).toNat,none⟩=some (.int .i64 (rd n2 (n9)))∧w'.cell? ⟨t4,(n3).toNat,none⟩=some (.int .i64 (rd n2 n3))) (ds:=[15,17]) (bA 18 0) (by kernel_rfl) rfl rfl ⟨r4,r9⟩ (fun hHeld=>?_);refine with_tabW Azz.tab11 Azz.bits11 (fun HT_ HW_=>?_)
        generalize wr.drew=B8 at e8 HK HB z3 z7 B7 z5 z9 r4 r9 z4 z8 hHeld ⊢;refine pS 0 61 HT_ ?_;refine pS 1 62 HT_ ?_;refine pS 2 63 HT_ ?_;refine pS 3 64 HT_ ?_;refine pS 4 65 HT_ ?_;refine pS 5 66 HT_ ?_;refine pS 6 67 HT_ ?_;refine pS 7 68 HT_ ?_;refine pS 8 69 HT_ ?_;refine pS 10 71 HT_ ?_;refine pS 11 72 HT_ ?_;refine pS 12 73 HT_ ?_;refine tU 9 70 HT_ HW_ hHeld ?_;refine tU 13 74 HT_ HW_ hHeld ?_;refine pS 14 75 HT_ ?_;refine lU 15 none HT_ fun K hK=>?_
        refine skip_ (w1:=?_) (by rfl) rfl ?_ ?_
        rotate_left
        ·go_simp
         rfl
        refine hK.out _ _ ?_;clear hK K;refine pS 16 76 HT_ ?_;refine lU 17 none HT_ fun K hK=>?_
        refine skip_ (w1:=?_) (by rfl) rfl ?_ ?_
        rotate_left
        ·go_simp
         rfl
        refine hK.out _ _ ?_;clear hK K;refine done_ (done_of HT_.out (by kernel_rfl)) ?_
        try go_wp2
        go_roundg k2
        case measure=>have:=e0.out;have:=n5.out;omega
        case rel=>exact⟨(o9),(n9),(by first|rfl|(simp;done)|(simp only[← o0] <;> (first|rfl|simp))|(simp [*];done)),H',⟨by have:=e0.out;have:=n5.out;omega⟩,⟨rX B7.out⟩,⟨by repeat(first|(with_reducible first|exact HK.out|apply Kept.alloc|apply Kept.drewN|apply Kept.drew|refine Kept.setCell ?_ HMgo25.out _|refine Kept.setCell ?_ HMgo25.out _)|exact HK.out)⟩,⟨pB⟩⟩
       ·rw[if_neg n6] at H;have n7:decide (n3 < (wrap64 (d8 - 1)))=false:=decide_eq_false n6;have n8:decide (n3 < (IntKind.i64.wrap (d8 - 1)))=false:=by have h_:=n7;first|exact h_|(simp only[i64_w];exact h_)
        clear n6;obtain rfl:=Option.some.inj H;go_wp2
        first|go_end0|((try simp only[Exit.inBlock,Exit.then]);refine bodyPost_ret (results_none rfl _ _ _) rfl ?_)
        exact⟨eW,rX e8.out,pB,kK HK⟩
 ·rw[if_neg c6] at H;obtain⟨d4,d5⟩:=bI c6;by_cases C0:(wrap64 (a8 - a7))=1
  ·rw[if_pos C0] at H;obtain⟨C1,C2⟩:=bE C0;clear C0;have H':=aM H;clear H;go_enter Try.func36,Try.ntmps36
   go_wp2
   go_loopg [14,15] k (fun kq C3 C4 w'=>∃ (C5:Int) (C6:Int),C3=.int .i64 C5∧C4=.int .i64 C6∧Aside0 (Azz.l2 kq l0 a7 C5 C6 b4=some r)∧Aside0 (kq≤k)∧Aside0 (Kd.R (Kd.int .i64) 3 w' b5.heap.size (fun k_=>(a5 k_∨w.heap.size≤k_)) u9000_ l0)∧Aside0 (Kept w w' (fun k_=>a5 k_))∧Aside0 (Below b5.heap.size b5 w'))
   case atStart=>exact⟨(a6),(a7),sD,sD,H',⟨Nat.le_refl _⟩,⟨rX b9.out⟩,⟨kK HK⟩,⟨pB⟩⟩
   case round =>
    clear H';try clear n4
    obtain⟨C5,C6,rfl,rfl,HA,e0,e8,HK,HB⟩:=hrel;cases gk with
    | zero=>exact absurd HA.out (by simp [Azz.l2])
    | succ k1 =>
     have H:=HA.out;clear HA;simp only[Azz.l2] at H;by_cases C7:C5 < C6
     ·rw[if_pos C7] at H;have C8:=dE C7;clear C7;obtain⟨C9,H⟩:=iN H;obtain⟨D0,H⟩:=iN H;obtain⟨D1,D2⟩:∃ j_:Int,(wrap64 ((IntKind.u64.wrap (wrap64 (C5+C6))) / 2))=j_:=⟨_,rfl⟩;replace H:(if 0≤(D1) then(if(D1) < (l0.length:Int) then((Czj.f (rd l0 a7) (rd l0 (D1)) b4).bind fun D3=>(if D3 < 0 then(Azz.l2 k1 l0 a7 C5 D1 b4) else(Azz.l2 k1 l0 a7 (wrap64 ((D1)+1)) C6 b4))) else(none)) else(none))=some r:=by first|(rw[D2] at H;exact H)|(simp only[D2] at H ⊢;exact H)
      have D4:(IntKind.i64.wrap ((IntKind.u64.wrap (wrap64 (C5+C6))) / 2))=D1:=(i64_w _).trans D2;obtain⟨D5,H⟩:=iN H;obtain⟨D6,H⟩:=iN H;obtain⟨D3,D7,H⟩:=bT H;(try dsimp only at H);by_cases D8:D3 < 0
      ·rw[if_pos D8] at H;have D9:=dE D8;clear D8;have H':=aM H;clear H;try go_wp2
       have n0_:=aM (Kd.R_drew e8.out);have n1_:=aM (Kept.drew HK.out);have n2_:=aM (below_drew1 HB.out);clear e8 HK HB;have e8:=n0_;have HK:=n1_;have HB:=n2_;clear n0_ n1_ n2_;obtain⟨E0,E1,E2⟩:=Kd.R_slice e8.out;(first|subst E2|(injection E2 with f1_ f2_ f3_;have f4_:=f1_.symm;have f5_:=f3_.symm;clear f1_ f2_ f3_;subst f4_;subst f5_))
       obtain⟨E3,E4,E5,E6,E7⟩:=aI (Kd.R_reads' e8.out).2.2 a7;cases E4;obtain⟨E8,E9,F0,F1,F2⟩:=aI (Kd.R_reads' e8.out).2.2 (D1);obtain rfl:E3=E8:=(by injection E9);refine start_ (n:=12) (S:=fun w'=>w'.cell? (E3.add (a7).toNat)=some (.int .i64 (rd l0 a7))∧w'.cell? (E3.add ((D1)).toNat)=some (.int .i64 (rd l0 (D1)))) (ds:=[]) (bA 12 0) (by kernel_rfl) rfl rfl ⟨E5,F0⟩ (fun hHeld=>?_);refine with_tabW Azz.tab17 Azz.bits17 (fun HT_ HW_=>?_)
       generalize wr.drew=F3 at e8 HK HB E5 F0 hHeld ⊢;refine pS 0 92 HT_ ?_;refine pS 1 93 HT_ ?_;refine pS 2 94 HT_ ?_;refine pS 3 95 HT_ ?_;refine pS 5 97 HT_ ?_;refine pS 6 98 HT_ ?_;refine pS 7 99 HT_ ?_;refine tU 4 96 HT_ HW_ hHeld ?_;refine tU 8 100 HT_ HW_ hHeld ?_;refine oU 9 (some 101) HT_ fun K hK=>?_
       refine goesv_ Try.func16 (by kernel_rfl) rfl #[.int .i64 (rd l0 a7),.int .i64 (rd l0 (D1)),.pointer a9] (by rfl) rfl rfl (by(try simp only[List.map_toArray,List.map_cons,List.map_nil]);first|done|(simp only[D2];rfl)|rfl|(simp only[List.length_drop,List.length_take];rfl)) ?_
       with_reducible refine(Czj.calls (rd l0 a7) (rd l0 (D1)) _ b3 b4 D3 _ ?side1 ?side2 D7.out).mono ?_
       (case side1=>exact Kd.C_kept_now d0.out (kK HK))
       (case side2=>exact d3.out)
       rintro e w' ⟨rfl,⟨nd,rfl⟩⟩;refine⟨_,rfl,?_⟩;refine hK.out _ _ ⟨hHeld.1,hHeld.2⟩ (fun hHeld=>?_)
       clear hK K;refine nm 101 ?_;refine pS 10 102 HT_ ?_;refine pS 11 103 HT_ ?_;refine done_ (done_of HT_.out (by kernel_rfl)) ?_
       try go_wp2
       go_roundg k1
       case measure=>have:=e0.out;omega
       case rel=>exact⟨(C5),(D1),sD,(by first|rfl|(simp;done)|(simp only[← D2] <;> (first|rfl|simp))|(simp [*];done)),H',⟨by have:=e0.out;omega⟩,⟨rX e8.out⟩,⟨kK HK⟩,⟨pB⟩⟩
      ·rw[if_neg D8] at H;have D9:decide (D3 < 0)=false:=decide_eq_false D8;clear D8;have H':=aM H;clear H;try go_wp2
       have n0_:=aM (Kd.R_drew e8.out);have n1_:=aM (Kept.drew HK.out);have n2_:=aM (below_drew1 HB.out);clear e8 HK HB;have e8:=n0_;have HK:=n1_;have HB:=n2_;clear n0_ n1_ n2_;obtain⟨F4,F5,F6⟩:=Kd.R_slice e8.out;(first|subst F6|(injection F6 with f1_ f2_ f3_;have f4_:=f1_.symm;have f5_:=f3_.symm;clear f1_ f2_ f3_;subst f4_;subst f5_))
       obtain⟨E3,E4,E5,E6,E7⟩:=aI (Kd.R_reads' e8.out).2.2 a7;cases E4;obtain⟨E8,E9,F0,F1,F2⟩:=aI (Kd.R_reads' e8.out).2.2 (D1);obtain rfl:E3=E8:=(by injection E9);refine start_ (n:=12) (S:=fun w'=>w'.cell? (E3.add (a7).toNat)=some (.int .i64 (rd l0 a7))∧w'.cell? (E3.add ((D1)).toNat)=some (.int .i64 (rd l0 (D1)))) (ds:=[]) (bA 12 0) (by kernel_rfl) rfl rfl ⟨E5,F0⟩ (fun hHeld=>?_);refine with_tabW Azz.tab17 Azz.bits17 (fun HT_ HW_=>?_)
       generalize wr.drew=F7 at e8 HK HB E5 F0 hHeld ⊢;refine pS 0 92 HT_ ?_;refine pS 1 93 HT_ ?_;refine pS 2 94 HT_ ?_;refine pS 3 95 HT_ ?_;refine pS 5 97 HT_ ?_;refine pS 6 98 HT_ ?_;refine pS 7 99 HT_ ?_;refine tU 4 96 HT_ HW_ hHeld ?_;refine tU 8 100 HT_ HW_ hHeld ?_;refine oU 9 (some 101) HT_ fun K hK=>?_
       refine goesv_ Try.func16 (by kernel_rfl) rfl #[.int .i64 (rd l0 a7),.int .i64 (rd l0 (D1)),.pointer a9] (by rfl) rfl rfl (by(try simp only[List.map_toArray,List.map_cons,List.map_nil]);first|done|(simp only[D2];rfl)|rfl|(simp only[List.length_drop,List.length_take];rfl)) ?_
       with_reducible refine(Czj.calls (rd l0 a7) (rd l0 (D1)) _ b3 b4 D3 _ ?side1 ?side2 D7.out).mono ?_
       (case side1=>exact Kd.C_kept_now d0.out (kK HK))
       (case side2=>exact d3.out)
       rintro e w' ⟨rfl,⟨nd,rfl⟩⟩;refine⟨_,rfl,?_⟩;refine hK.out _ _ ⟨hHeld.1,hHeld.2⟩ (fun hHeld=>?_)
       clear hK K;refine nm 101 ?_;refine pS 10 102 HT_ ?_;refine pS 11 103 HT_ ?_;refine done_ (done_of HT_.out (by kernel_rfl)) ?_
       try go_wp2
       go_roundg k1
       case measure=>have:=e0.out;omega
       case rel=>exact⟨(wrap64 ((D1)+1)),(C6),(by first|rfl|(simp;done)|(simp only[← D2] <;> (first|rfl|simp))|(simp [*];done)),sD,H',⟨by have:=e0.out;omega⟩,⟨rX e8.out⟩,⟨kK HK⟩,⟨pB⟩⟩
     ·rw[if_neg C7] at H;have C8:decide (C5 < C6)=false:=decide_eq_false C7;clear C7;have H':=aM H;clear H;go_wp2
      go_loopg [17] k1 (fun kq F8 w'=>∃ (n2:List Int) (F9:Int),F8=.int .i64 F9∧Aside0 (Azz.l3 kq n2 C5 F9=some r)∧Aside0 (kq≤k1)∧Aside0 (Kd.R (Kd.int .i64) 3 w' b5.heap.size (fun k_=>(a5 k_∨w.heap.size≤k_)) u9000_ n2)∧Aside0 (Kept w w' (fun k_=>a5 k_))∧Aside0 (Below b5.heap.size b5 w'))
      case atStart=>exact⟨(l0),(a7),sD,H',⟨Nat.le_refl _⟩,⟨rX e8.out⟩,⟨kK HK⟩,⟨pB⟩⟩
      case round =>
       clear H';try clear n4
       obtain⟨n2,F9,rfl,HA,n5,e8,HK,HB⟩:=hrel;cases gk with
       | zero=>exact absurd HA.out (by simp [Azz.l3])
       | succ k2 =>
        have H:=HA.out;clear HA;simp only[Azz.l3] at H;by_cases G0:F9 > C5
        ·rw[if_pos G0] at H;have G1:decide (C5 < F9)=true:=dE G0;clear G0;obtain⟨G2,G3⟩:∃ j_:Int,(wrap64 (F9 - 1))=j_:=⟨_,rfl⟩;replace H:(if 0≤(G2) then(if(G2) < (n2.length:Int) then(if 0≤F9 then(if F9 < (n2.length:Int) then(Azz.l3 k2 ((n2.set (F9:Int).toNat (rd n2 (G2))).set ((G2):Int).toNat (rd n2 F9)) C5 G2) else(none)) else(none)) else(none)) else(none))=some r:=by first|(rw[G3] at H;exact H)|(simp only[G3] at H ⊢;exact H)
         have G4:(IntKind.i64.wrap (F9 - 1))=G2:=(i64_w _).trans G3;obtain⟨G5,H⟩:=iN H;obtain⟨G6,H⟩:=iN H;obtain⟨G7,H⟩:=iN H;obtain⟨G8,H⟩:=iN H;obtain⟨G9,H0⟩:∃ y_:List Int,y_=(n2.set (F9:Int).toNat (rd n2 (G2))):=⟨_,rfl⟩;replace H:(Azz.l3 k2 (G9.set ((G2):Int).toNat (rd n2 F9)) C5 G2)=some r:=yE H0 H
         have H1:=aM H0;clear H0;obtain⟨H2,H3⟩:∃ y_:List Int,y_=(G9.set ((G2):Int).toNat (rd n2 F9)):=⟨_,rfl⟩;replace H:(Azz.l3 k2 H2 C5 G2)=some r:=yE H3 H
         have H4:=aM H3;clear H3;have H':=aM H;clear H;try go_wp2
         have n0_:=aM (Kd.R_drew e8.out);have n1_:=aM (Kept.drew HK.out);have n2_:=aM (below_drew1 HB.out);clear e8 HK HB;have e8:=n0_;have HK:=n1_;have HB:=n2_;clear n0_ n1_ n2_;obtain⟨H5,H6,H7⟩:=Kd.R_slice e8.out;(first|subst H7|(injection H7 with f1_ f2_ f3_;have f4_:=f1_.symm;have f5_:=f3_.symm;clear f1_ f2_ f3_;subst f4_;subst f5_))
         obtain⟨H8,H9,I0,I1,I2⟩:=aI (Kd.R_reads' e8.out).2.2 (G2);cases H9;obtain⟨I3,I4,I5,I6,I7⟩:=aI (Kd.R_reads' e8.out).2.2 F9;obtain rfl:H8=I3:=(by injection I4);have I8:0≤(F9:Int):=oE aS
         have I9:(F9:Int) < ((n2.length:Int):Int):=oE aS
         obtain⟨J0,J1,J2,J3,J4,J5,J6⟩:=Kd.R_form e8.out (by omega)
         (first|cases J2|(injection J2 with ea_ en_ ec_;(first|subst ea_|(injection ea_ with ea_;subst ea_));subst ec_;clear en_))
         have J7:=aM J3;have J8:=aM J6;clear J3 J4 J6;have HMgo50:=aM (show(a5 J0∨w.heap.size≤J0) from(e8.out.1 _ rfl))
         (first|simp only[add_plain] at I0|skip)
         (first|simp only[add_plain] at I5|skip)
         obtain⟨J9,K0⟩:=Kd.R_celln 0 e8.out (F9:Int) I8 I9;replace I8:=eq_true I8;replace I9:=eq_true I9;have K1:=Kd.R_putn e8.out (F9:Int) (rd n2 (G2));rw[← H1.out] at K1;have K2:=aM K1;clear K1;obtain⟨K3,K4⟩:=Kd.R_celln 0 K2.out ((G2):Int) (oE aS) (oE aS);have K5:=eT ((G2));have K6:=eU ((G2)) n2.length;have K7:=Kd.R_putn K2.out ((G2):Int) (rd n2 F9);rw[← H4.out] at K7;have K8:=aM K7;clear K7;refine start_ (n:=18) (S:=fun w'=>w'.cell? ⟨J0,((G2)).toNat,none⟩=some (.int .i64 (rd n2 (G2)))∧w'.cell? ⟨J0,(F9).toNat,none⟩=some (.int .i64 (rd n2 F9))) (ds:=[15,17]) (bA 18 0) (by kernel_rfl) rfl rfl ⟨I0,I5⟩ (fun hHeld=>?_);refine with_tabW Azz.tab23 Azz.bits23 (fun HT_ HW_=>?_)
         generalize wr.drew=K9 at e8 HK HB J8 K2 K8 K0 K4 I0 I5 J9 K3 hHeld ⊢;refine pS 0 113 HT_ ?_;refine pS 1 114 HT_ ?_;refine pS 2 115 HT_ ?_;refine pS 3 116 HT_ ?_;refine pS 4 117 HT_ ?_;refine pS 5 118 HT_ ?_;refine pS 6 119 HT_ ?_;refine pS 7 120 HT_ ?_;refine pS 8 121 HT_ ?_;refine pS 10 123 HT_ ?_;refine pS 11 124 HT_ ?_;refine pS 12 125 HT_ ?_;refine tU 9 122 HT_ HW_ hHeld ?_;refine tU 13 126 HT_ HW_ hHeld ?_;refine pS 14 127 HT_ ?_;refine lU 15 none HT_ fun K hK=>?_
         refine skip_ (w1:=?_) (by rfl) rfl ?_ ?_
         rotate_left
         ·go_simp
          rfl
         refine hK.out _ _ ?_;clear hK K;refine pS 16 128 HT_ ?_;refine lU 17 none HT_ fun K hK=>?_
         refine skip_ (w1:=?_) (by rfl) rfl ?_ ?_
         rotate_left
         ·go_simp
          rfl
         refine hK.out _ _ ?_;clear hK K;refine done_ (done_of HT_.out (by kernel_rfl)) ?_
         try go_wp2
         go_roundg k2
         case measure=>have:=e0.out;have:=n5.out;omega
         case rel=>exact⟨(H2),(G2),(by first|rfl|(simp;done)|(simp only[← G3] <;> (first|rfl|simp))|(simp [*];done)),H',⟨by have:=e0.out;have:=n5.out;omega⟩,⟨rX K8.out⟩,⟨by repeat(first|(with_reducible first|exact HK.out|apply Kept.alloc|apply Kept.drewN|apply Kept.drew|refine Kept.setCell ?_ HMgo50.out _|refine Kept.setCell ?_ HMgo50.out _)|exact HK.out)⟩,⟨pB⟩⟩
        ·rw[if_neg G0] at H;have G1:decide (C5 < F9)=false:=decide_eq_false G0;clear G0;obtain rfl:=Option.some.inj H;go_wp2
         first|go_end0|((try simp only[Exit.inBlock,Exit.then]);refine bodyPost_ret (results_none rfl _ _ _) rfl ?_)
         exact⟨eW,rX e8.out,pB,kK HK⟩
  ·rw[if_neg C0] at H;obtain⟨C1,C2⟩:=bI C0;have L0:=aM H;clear H;go_enter Try.func36,Try.ntmps36
   go_upto_if 140 with (fail)
   go_cut [20,21] (fun L3 L4 wc=>∃ (kq:Nat) (L5:Int) (L6:Int),L3=.int .i64 L5∧L4=.int .i64 L6∧Aside0 (Azz.j4 kq l0 a6 a7 a8 (wrap64 ((IntKind.u64.wrap (wrap64 (a6+a8))) / 2)) (wrap64 ((wrap64 ((IntKind.u64.wrap (wrap64 (a6+a8))) / 2))+a7)) L5 L6 b4=some r)∧Aside0 (kq≤k)∧Aside0 (Kd.R (Kd.int .i64) 3 wc b5.heap.size (fun k_=>(a5 k_∨w.heap.size≤k_)) u9000_ l0)∧Aside0 (Kept w wc (fun k_=>a5 k_))∧Aside0 (Below b5.heap.size b5 wc))
   case first =>
    have H:=L0.out;clear L0;by_cases L7:a7 > (wrap64 ((IntKind.u64.wrap (wrap64 (a6+a8))) / 2))
    ·rw[if_pos L7] at H;have L8:decide ((wrap64 ((IntKind.u64.wrap (wrap64 (a6+a8))) / 2)) < a7)=true:=dE L7;have L9:decide ((IntKind.i64.wrap ((IntKind.u64.wrap (IntKind.i64.wrap (a6+a8))) / 2)) < a7)=true:=by have h_:=L8;first|exact h_|(simp only[i64_w];exact h_)
     clear L7;(first|rw[L8]|(simp only[i64_w,i32_w];rw[L8])|skip)
     have H':=aM H;clear H;go_wp2
     go_meet
     case rel=>exact⟨_,(wrap64 ((wrap64 ((wrap64 ((IntKind.u64.wrap (wrap64 (a6+a8))) / 2))+a7)) - a8)),(wrap64 ((IntKind.u64.wrap (wrap64 (a6+a8))) / 2)),sD,sD,H',⟨by first|omega|exact Nat.le_refl _⟩,⟨rX b9.out⟩,⟨kK HK⟩,⟨pB⟩⟩
    ·rw[if_neg L7] at H;have L8:decide ((wrap64 ((IntKind.u64.wrap (wrap64 (a6+a8))) / 2)) < a7)=false:=decide_eq_false L7;have L9:decide ((IntKind.i64.wrap ((IntKind.u64.wrap (IntKind.i64.wrap (a6+a8))) / 2)) < a7)=false:=by have h_:=L8;first|exact h_|(simp only[i64_w];exact h_)
     clear L7;(first|rw[L8]|(simp only[i64_w,i32_w];rw[L8])|skip)
     have H':=aM H;clear H;go_wp2
     go_meet
     case rel=>exact⟨_,(a6),(a7),sD,sD,H',⟨by first|omega|exact Nat.le_refl _⟩,⟨rX b9.out⟩,⟨kK HK⟩,⟨pB⟩⟩
   case rest=>as_aux_lemma =>
    clear L0;try clear n4
    obtain⟨kq,L5,L6,rfl,rfl,HA,M0,e8,HK,HB⟩:=hcut;cases kq with
    | zero=>exact absurd HA.out (by simp [Azz.j4])
    | succ M1 =>
     have H:=HA.out;clear HA;simp only[Azz.j4] at H;have H':=aM H;clear H;go_wp2
     go_loopg [20,21] M1 (fun kq L3 L4 w'=>∃ (M2:Int) (M3:Int),L3=.int .i64 M2∧L4=.int .i64 M3∧Aside0 (Azz.l4 kq l0 a6 a7 a8 (wrap64 ((IntKind.u64.wrap (wrap64 (a6+a8))) / 2)) (wrap64 ((wrap64 ((IntKind.u64.wrap (wrap64 (a6+a8))) / 2))+a7)) M2 M3 (wrap64 ((wrap64 ((wrap64 ((IntKind.u64.wrap (wrap64 (a6+a8))) / 2))+a7)) - 1)) b4=some r)∧Aside0 (kq≤M1)∧Aside0 (Kd.R (Kd.int .i64) 3 w' b5.heap.size (fun k_=>(a5 k_∨w.heap.size≤k_)) u9000_ l0)∧Aside0 (Kept w w' (fun k_=>a5 k_))∧Aside0 (Below b5.heap.size b5 w'))
     case atStart=>exact⟨(L5),(L6),sD,sD,H',⟨Nat.le_refl _⟩,⟨rX e8.out⟩,⟨kK HK⟩,⟨pB⟩⟩
     case round =>
      clear H';try clear n4
      obtain⟨M2,M3,rfl,rfl,HA,n5,e8,HK,HB⟩:=hrel;cases gk with
      | zero=>exact absurd HA.out (by simp [Azz.l4])
      | succ k2 =>
       have H:=HA.out;clear HA;simp only[Azz.l4] at H;by_cases M4:M2 < M3
       ·rw[if_pos M4] at H;have M5:=dE M4;clear M4;obtain⟨M6,M7⟩:∃ j_:Int,(wrap64 ((wrap64 ((wrap64 ((wrap64 ((IntKind.u64.wrap (wrap64 (a6+a8))) / 2))+a7)) - 1)) - (wrap64 ((IntKind.u64.wrap (wrap64 (M2+M3))) / 2))))=j_:=⟨_,rfl⟩;replace H:(if 0≤(M6) then(if(M6) < (l0.length:Int) then(if 0≤(wrap64 ((IntKind.u64.wrap (wrap64 (M2+M3))) / 2)) then(if(wrap64 ((IntKind.u64.wrap (wrap64 (M2+M3))) / 2)) < (l0.length:Int) then((Czj.f (rd l0 (M6)) (rd l0 (wrap64 ((IntKind.u64.wrap (wrap64 (M2+M3))) / 2))) b4).bind fun M8=>(if M8 < 0 then(Azz.l4 k2 l0 a6 a7 a8 (wrap64 ((IntKind.u64.wrap (wrap64 (a6+a8))) / 2)) (wrap64 ((wrap64 ((IntKind.u64.wrap (wrap64 (a6+a8))) / 2))+a7)) M2 (wrap64 ((IntKind.u64.wrap (wrap64 (M2+M3))) / 2)) (wrap64 ((wrap64 ((wrap64 ((IntKind.u64.wrap (wrap64 (a6+a8))) / 2))+a7)) - 1)) b4) else(Azz.l4 k2 l0 a6 a7 a8 (wrap64 ((IntKind.u64.wrap (wrap64 (a6+a8))) / 2)) (wrap64 ((wrap64 ((IntKind.u64.wrap (wrap64 (a6+a8))) / 2))+a7)) (wrap64 ((wrap64 ((IntKind.u64.wrap (wrap64 (M2+M3))) / 2))+1)) M3 (wrap64 ((wrap64 ((wrap64 ((IntKind.u64.wrap (wrap64 (a6+a8))) / 2))+a7)) - 1)) b4))) else(none)) else(none)) else(none)) else(none))=some r:=by first|(rw[M7] at H;exact H)|(simp only[M7] at H ⊢;exact H)
        have M9:(IntKind.i64.wrap ((wrap64 ((wrap64 ((wrap64 ((IntKind.u64.wrap (wrap64 (a6+a8))) / 2))+a7)) - 1)) - (wrap64 ((IntKind.u64.wrap (wrap64 (M2+M3))) / 2))))=M6:=(i64_w _).trans M7;obtain⟨N0,H⟩:=iN H;obtain⟨N1,H⟩:=iN H;obtain⟨N2,N3⟩:∃ j_:Int,(wrap64 ((IntKind.u64.wrap (wrap64 (M2+M3))) / 2))=j_:=⟨_,rfl⟩;replace H:(if 0≤(N2) then(if(N2) < (l0.length:Int) then((Czj.f (rd l0 (M6)) (rd l0 (N2)) b4).bind fun M8=>(if M8 < 0 then(Azz.l4 k2 l0 a6 a7 a8 (wrap64 ((IntKind.u64.wrap (wrap64 (a6+a8))) / 2)) (wrap64 ((wrap64 ((IntKind.u64.wrap (wrap64 (a6+a8))) / 2))+a7)) M2 N2 (wrap64 ((wrap64 ((wrap64 ((IntKind.u64.wrap (wrap64 (a6+a8))) / 2))+a7)) - 1)) b4) else(Azz.l4 k2 l0 a6 a7 a8 (wrap64 ((IntKind.u64.wrap (wrap64 (a6+a8))) / 2)) (wrap64 ((wrap64 ((IntKind.u64.wrap (wrap64 (a6+a8))) / 2))+a7)) (wrap64 ((N2)+1)) M3 (wrap64 ((wrap64 ((wrap64 ((IntKind.u64.wrap (wrap64 (a6+a8))) / 2))+a7)) - 1)) b4))) else(none)) else(none))=some r:=by first|(rw[N3] at H;exact H)|(simp only[N3] at H ⊢;exact H)
        have N4:(IntKind.i64.wrap ((IntKind.u64.wrap (wrap64 (M2+M3))) / 2))=N2:=(i64_w _).trans N3;(try rw[N3] at M7)
        (try rw[N3] at M9)
        obtain⟨N5,H⟩:=iN H;obtain⟨N6,H⟩:=iN H;obtain⟨M8,N7,H⟩:=bT H;(try dsimp only at H);by_cases N8:M8 < 0
        ·rw[if_pos N8] at H;have N9:=dE N8;clear N8;have H':=aM H;clear H;try go_wp2
         have n0_:=aM (Kd.R_drew e8.out);have n1_:=aM (Kept.drew HK.out);have n2_:=aM (below_drew1 HB.out);clear e8 HK HB;have e8:=n0_;have HK:=n1_;have HB:=n2_;clear n0_ n1_ n2_;obtain⟨O0,O1,O2⟩:=Kd.R_slice e8.out;(first|subst O2|(injection O2 with f1_ f2_ f3_;have f4_:=f1_.symm;have f5_:=f3_.symm;clear f1_ f2_ f3_;subst f4_;subst f5_))
         obtain⟨O3,O4,O5,O6,O7⟩:=aI (Kd.R_reads' e8.out).2.2 (M6);cases O4;obtain⟨O8,O9,P0,P1,P2⟩:=aI (Kd.R_reads' e8.out).2.2 (N2);obtain rfl:O3=O8:=(by injection O9);refine start_ (n:=14) (S:=fun w'=>w'.cell? (O3.add ((M6)).toNat)=some (.int .i64 (rd l0 (M6)))∧w'.cell? (O3.add ((N2)).toNat)=some (.int .i64 (rd l0 (N2)))) (ds:=[]) (bA 14 0) (by kernel_rfl) rfl rfl ⟨O5,P0⟩ (fun hHeld=>?_);refine with_tabW Azz.tab35 Azz.bits35 (fun HT_ HW_=>?_)
         generalize wr.drew=P3 at e8 HK HB O5 P0 hHeld ⊢;refine pS 0 158 HT_ ?_;refine pS 1 159 HT_ ?_;refine pS 2 160 HT_ ?_;refine pS 3 161 HT_ ?_;refine pS 4 162 HT_ ?_;refine pS 5 163 HT_ ?_;refine pS 7 165 HT_ ?_;refine pS 8 166 HT_ ?_;refine pS 9 167 HT_ ?_;refine tU 6 164 HT_ HW_ hHeld ?_;refine tU 10 168 HT_ HW_ hHeld ?_;refine oU 11 (some 169) HT_ fun K hK=>?_
         refine goesv_ Try.func16 (by kernel_rfl) rfl #[.int .i64 (rd l0 (M6)),.int .i64 (rd l0 (N2)),.pointer a9] (by rfl) rfl rfl (by(try simp only[List.map_toArray,List.map_cons,List.map_nil]);first|done|(simp only[M7,N3];rfl)|rfl|(simp only[List.length_drop,List.length_take];rfl)) ?_
         with_reducible refine(Czj.calls (rd l0 (M6)) (rd l0 (N2)) _ b3 b4 M8 _ ?side1 ?side2 N7.out).mono ?_
         (case side1=>exact Kd.C_kept_now d0.out (kK HK))
         (case side2=>exact d3.out)
         rintro e w' ⟨rfl,⟨nd,rfl⟩⟩;refine⟨_,rfl,?_⟩;refine hK.out _ _ ⟨hHeld.1,hHeld.2⟩ (fun hHeld=>?_)
         clear hK K;refine nm 169 ?_;refine pS 12 170 HT_ ?_;refine pS 13 171 HT_ ?_;refine done_ (done_of HT_.out (by kernel_rfl)) ?_
         try go_wp2
         go_roundg k2
         case measure=>have:=M0.out;have:=n5.out;omega
         case rel=>exact⟨(M2),(N2),sD,(by first|rfl|(simp;done)|(simp only[← N3] <;> (first|rfl|simp))|(simp [*];done)),H',⟨by have:=M0.out;have:=n5.out;omega⟩,⟨rX e8.out⟩,⟨kK HK⟩,⟨pB⟩⟩
        ·rw[if_neg N8] at H;have N9:decide (M8 < 0)=false:=decide_eq_false N8;clear N8;have H':=aM H;clear H;try go_wp2
         have n0_:=aM (Kd.R_drew e8.out);have n1_:=aM (Kept.drew HK.out);have n2_:=aM (below_drew1 HB.out);clear e8 HK HB;have e8:=n0_;have HK:=n1_;have HB:=n2_;clear n0_ n1_ n2_;obtain⟨P4,P5,P6⟩:=Kd.R_slice e8.out;(first|subst P6|(injection P6 with f1_ f2_ f3_;have f4_:=f1_.symm;have f5_:=f3_.symm;clear f1_ f2_ f3_;subst f4_;subst f5_))
         obtain⟨O3,O4,O5,O6,O7⟩:=aI (Kd.R_reads' e8.out).2.2 (M6);cases O4;obtain⟨O8,O9,P0,P1,P2⟩:=aI (Kd.R_reads' e8.out).2.2 (N2);obtain rfl:O3=O8:=(by injection O9);refine start_ (n:=14) (S:=fun w'=>w'.cell? (O3.add ((M6)).toNat)=some (.int .i64 (rd l0 (M6)))∧w'.cell? (O3.add ((N2)).toNat)=some (.int .i64 (rd l0 (N2)))) (ds:=[]) (bA 14 0) (by kernel_rfl) rfl rfl ⟨O5,P0⟩ (fun hHeld=>?_);refine with_tabW Azz.tab35 Azz.bits35 (fun HT_ HW_=>?_)
         generalize wr.drew=P7 at e8 HK HB O5 P0 hHeld ⊢;refine pS 0 158 HT_ ?_;refine pS 1 159 HT_ ?_;refine pS 2 160 HT_ ?_;refine pS 3 161 HT_ ?_;refine pS 4 162 HT_ ?_;refine pS 5 163 HT_ ?_;refine pS 7 165 HT_ ?_;refine pS 8 166 HT_ ?_;refine pS 9 167 HT_ ?_;refine tU 6 164 HT_ HW_ hHeld ?_;refine tU 10 168 HT_ HW_ hHeld ?_;refine oU 11 (some 169) HT_ fun K hK=>?_
         refine goesv_ Try.func16 (by kernel_rfl) rfl #[.int .i64 (rd l0 (M6)),.int .i64 (rd l0 (N2)),.pointer a9] (by rfl) rfl rfl (by(try simp only[List.map_toArray,List.map_cons,List.map_nil]);first|done|(simp only[M7,N3];rfl)|rfl|(simp only[List.length_drop,List.length_take];rfl)) ?_
         with_reducible refine(Czj.calls (rd l0 (M6)) (rd l0 (N2)) _ b3 b4 M8 _ ?side1 ?side2 N7.out).mono ?_
         (case side1=>exact Kd.C_kept_now d0.out (kK HK))
         (case side2=>exact d3.out)
         rintro e w' ⟨rfl,⟨nd,rfl⟩⟩;refine⟨_,rfl,?_⟩;refine hK.out _ _ ⟨hHeld.1,hHeld.2⟩ (fun hHeld=>?_)
         clear hK K;refine nm 169 ?_;refine pS 12 170 HT_ ?_;refine pS 13 171 HT_ ?_;refine done_ (done_of HT_.out (by kernel_rfl)) ?_
         try go_wp2
         go_roundg k2
         case measure=>have:=M0.out;have:=n5.out;omega
         case rel=>exact⟨(wrap64 ((N2)+1)),(M3),(by first|rfl|(simp;done)|(simp only[← N3] <;> (first|rfl|simp))|(simp [*];done)),sD,H',⟨by have:=M0.out;have:=n5.out;omega⟩,⟨rX e8.out⟩,⟨kK HK⟩,⟨pB⟩⟩
       ·rw[if_neg M4] at H;have M5:decide (M2 < M3)=false:=decide_eq_false M4;clear M4;have P8:=aM H;clear H;go_upto_region 39 with (fail)
        go_cut [185] (fun P9 wc=>∃ (kq:Nat) (Q0:Bool),P9=.bool Q0∧Aside0 (Azz.j6 kq l0 a6 a7 a8 (wrap64 ((IntKind.u64.wrap (wrap64 (a6+a8))) / 2)) M2 (wrap64 ((wrap64 ((wrap64 ((IntKind.u64.wrap (wrap64 (a6+a8))) / 2))+a7)) - M2)) Q0 b4=some r)∧Aside0 (kq≤k2)∧Aside0 (Kd.R (Kd.int .i64) 3 wc b5.heap.size (fun k_=>(a5 k_∨w.heap.size≤k_)) u9000_ l0)∧Aside0 (Kept w wc (fun k_=>a5 k_))∧Aside0 (Below b5.heap.size b5 wc))
        case first =>
         have H:=P8.out;clear P8;by_cases Q1:M2 < a7
         ·rw[if_pos Q1] at H;have Q2:=dE Q1;clear Q1;(first|rw[Q2]|(simp only[i64_w,i32_w];rw[Q2])|skip)
          have H':=aM H;clear H;go_wp2
          go_meet
          case rel=>exact⟨_,(decide (a7 < (wrap64 ((wrap64 ((wrap64 ((IntKind.u64.wrap (wrap64 (a6+a8))) / 2))+a7)) - M2)))),sD,H',⟨by have:=M0.out;have:=n5.out;first|omega|exact Nat.le_refl _⟩,⟨rX e8.out⟩,⟨kK HK⟩,⟨pB⟩⟩
         ·rw[if_neg Q1] at H;have Q2:decide (M2 < a7)=false:=decide_eq_false Q1;clear Q1;(first|rw[Q2]|(simp only[i64_w,i32_w];rw[Q2])|skip)
          have H':=aM H;clear H;go_wp2
          go_meet
          case rel=>exact⟨_,(false),sD,H',⟨by have:=M0.out;have:=n5.out;first|omega|exact Nat.le_refl _⟩,⟨rX e8.out⟩,⟨kK HK⟩,⟨pB⟩⟩
        case rest=>as_aux_lemma =>
         clear P8;try clear n4
         obtain⟨kq,Q0,rfl,HA,Q3,e8,HK,HB⟩:=hcut;cases kq with
         | zero=>exact absurd HA.out (by simp [Azz.j6])
         | succ Q4 =>
          have H:=HA.out;clear HA;simp only[Azz.j6] at H;have Q5:=aM H;clear H;go_upto_if 185 with (fail)
          go_cut [] (fun wc=>∃ (kq:Nat) (Q6:List Int),Aside0 (Azz.j7 kq Q6 a6 a8 (wrap64 ((IntKind.u64.wrap (wrap64 (a6+a8))) / 2)) M2 (wrap64 ((wrap64 ((wrap64 ((IntKind.u64.wrap (wrap64 (a6+a8))) / 2))+a7)) - M2)) b4=some r)∧Aside0 (kq≤Q4)∧Aside0 (Kd.R (Kd.int .i64) 3 wc b5.heap.size (fun k_=>(a5 k_∨w.heap.size≤k_)) u9000_ Q6)∧Aside0 (Kept w wc (fun k_=>a5 k_))∧Aside0 (Below b5.heap.size b5 wc))
          case first =>
           have H:=Q5.out;clear Q5;by_cases Q7:Q0=true
           ·subst Q7;rw[if_pos rfl] at H;obtain⟨Q8,Q9,H⟩:=bT H;(try dsimp only at H);have H':=aM H;clear H;obtain⟨R0,R1,rfl⟩:=Kd.R_slice e8.out;go_wp2_with (first|((with_reducible refine gc 37 rfl ?_);refine gC 37 (some 191) Try.func37 #[.slice R0 l0.length R1,.int .i64 M2,.int .i64 a7,.int .i64 (wrap64 ((wrap64 ((wrap64 ((IntKind.u64.wrap (wrap64 (a6+a8))) / 2))+a7)) - M2)),.func (.func 16) #[] #[.pointer a9]] ?_;(with_reducible refine(Azk.calls Q4 (fun k_=>some k_=(.slice R0 l0.length R1:Value).ownBlock) (.slice R0 l0.length R1) l0 M2 a7 (wrap64 ((wrap64 ((wrap64 ((IntKind.u64.wrap (wrap64 (a6+a8))) / 2))+a7)) - M2)) _ b3 b4 Q8 b5 _ ?side1 ?side2 ?side3 ?side4 Q9.out).mono ?_);(case side1=>exact pB);(case side2=>exact Kd.R_tight rfl e8.out);(case side3=>exact Kd.C_kept_call d0.out (kK HK) (fun k_ hs_=>(fun e_=>(e8.out.1 k_ e_.symm)) hs_));(case side4=>exact d3.out);rintro e R2 ⟨rfl,R3,hb,hkp⟩;refine⟨_,rfl,?_⟩;replace HK:=aM (Kept.then_ (S:=(fun k_=>a5 k_)) (kK HK) hkp (fun k_ hs_=>(fun e_=>(e8.out.1 k_ e_.symm)) hs_));replace e8:=aM (Kd.R_reok rfl R3 (fun k_ e_=>e8.out.1 k_ e_));replace HB:=aM (hb);clear hb hkp R3))
            go_meet
            case rel=>exact⟨_,(Q8),H',⟨by have:=M0.out;have:=n5.out;have:=Q3.out;first|omega|exact Nat.le_refl _⟩,⟨rX e8.out⟩,⟨kK HK⟩,⟨pB⟩⟩
           ·obtain rfl:=bN Q7;rw[if_neg nF] at H
            have H':=aM H;clear H;go_wp2
            go_meet
            case rel=>exact⟨_,(l0),H',⟨by have:=M0.out;have:=n5.out;have:=Q3.out;first|omega|exact Nat.le_refl _⟩,⟨rX e8.out⟩,⟨kK HK⟩,⟨pB⟩⟩
          case rest=>as_aux_lemma =>
           clear Q5;try clear n4
           obtain⟨kq,Q6,HA,R4,e8,HK,HB⟩:=hcut;cases kq with
           | zero=>exact absurd HA.out (by simp [Azz.j7])
           | succ R5 =>
            have H:=HA.out;clear HA;simp only[Azz.j7] at H;have R6:=aM H;clear H;go_upto_region 41 with (fail)
            go_cut [199] (fun R7 wc=>∃ (kq:Nat) (R8:Bool),R7=.bool R8∧Aside0 (Azz.j8 kq Q6 a6 a8 (wrap64 ((IntKind.u64.wrap (wrap64 (a6+a8))) / 2)) M2 (wrap64 ((wrap64 ((wrap64 ((IntKind.u64.wrap (wrap64 (a6+a8))) / 2))+a7)) - M2)) R8 b4=some r)∧Aside0 (kq≤R5)∧Aside0 (Kd.R (Kd.int .i64) 3 wc b5.heap.size (fun k_=>(a5 k_∨w.heap.size≤k_)) u9000_ Q6)∧Aside0 (Kept w wc (fun k_=>a5 k_))∧Aside0 (Below b5.heap.size b5 wc))
            case first =>
             have H:=R6.out;clear R6;by_cases R9:a6 < M2
             ·rw[if_pos R9] at H;have U0:=dE R9;clear R9;(first|rw[U0]|(simp only[i64_w,i32_w];rw[U0])|skip)
              have H':=aM H;clear H;go_wp2
              go_meet
              case rel=>exact⟨_,(decide (M2 < (wrap64 ((IntKind.u64.wrap (wrap64 (a6+a8))) / 2)))),sD,H',⟨by have:=M0.out;have:=n5.out;have:=Q3.out;have:=R4.out;first|omega|exact Nat.le_refl _⟩,⟨rX e8.out⟩,⟨kK HK⟩,⟨pB⟩⟩
             ·rw[if_neg R9] at H;have U0:decide (a6 < M2)=false:=decide_eq_false R9;clear R9;(first|rw[U0]|(simp only[i64_w,i32_w];rw[U0])|skip)
              have H':=aM H;clear H;go_wp2
              go_meet
              case rel=>exact⟨_,(false),sD,H',⟨by have:=M0.out;have:=n5.out;have:=Q3.out;have:=R4.out;first|omega|exact Nat.le_refl _⟩,⟨rX e8.out⟩,⟨kK HK⟩,⟨pB⟩⟩
            case rest=>as_aux_lemma =>
             clear R6;try clear n4
             obtain⟨kq,R8,rfl,HA,U1,e8,HK,HB⟩:=hcut;cases kq with
             | zero=>exact absurd HA.out (by simp [Azz.j8])
             | succ U2 =>
              have H:=HA.out;clear HA;simp only[Azz.j8] at H;by_cases U3:R8=true
              ·subst U3;rw[if_pos rfl] at H;obtain⟨U4,U5,H⟩:=bT H;(try dsimp only at H);by_cases U6:(wrap64 ((IntKind.u64.wrap (wrap64 (a6+a8))) / 2)) < (wrap64 ((wrap64 ((wrap64 ((IntKind.u64.wrap (wrap64 (a6+a8))) / 2))+a7)) - M2))
               ·rw[if_pos U6] at H;have U7:decide ((wrap64 ((IntKind.u64.wrap (wrap64 (a6+a8))) / 2)) < (wrap64 ((wrap64 ((wrap64 ((IntKind.u64.wrap (wrap64 (a6+a8))) / 2))+a7)) - M2)))=true:=dE U6;have U8:decide ((IntKind.i64.wrap ((IntKind.u64.wrap (IntKind.i64.wrap (a6+a8))) / 2)) < (IntKind.i64.wrap ((IntKind.i64.wrap ((IntKind.i64.wrap ((IntKind.u64.wrap (IntKind.i64.wrap (a6+a8))) / 2))+a7)) - M2)))=true:=by have h_:=U7;first|exact h_|(simp only[i64_w];exact h_)
                clear U6;by_cases U9:(wrap64 ((wrap64 ((wrap64 ((IntKind.u64.wrap (wrap64 (a6+a8))) / 2))+a7)) - M2)) < a8
                ·rw[if_pos U9] at H;have V0:decide ((wrap64 ((wrap64 ((wrap64 ((IntKind.u64.wrap (wrap64 (a6+a8))) / 2))+a7)) - M2)) < a8)=true:=dE U9;have V1:decide ((IntKind.i64.wrap ((IntKind.i64.wrap ((IntKind.i64.wrap ((IntKind.u64.wrap (IntKind.i64.wrap (a6+a8))) / 2))+a7)) - M2)) < a8)=true:=by have h_:=V0;first|exact h_|(simp only[i64_w];exact h_)
                 clear U9;replace H:=bS H;obtain⟨V2,V3,H⟩:=H;replace H:(some V2)=some r:=H;have V4:=aM V3;clear V3;obtain rfl:=Option.some.inj H;obtain⟨V5,V6,rfl⟩:=Kd.R_slice e8.out;go_wp2_with (first|((with_reducible refine gc 36 rfl ?_);refine gC 36 (some 205) Try.func36 #[.slice V5 Q6.length V6,.int .i64 a6,.int .i64 M2,.int .i64 (wrap64 ((IntKind.u64.wrap (wrap64 (a6+a8))) / 2)),.func (.func 16) #[] #[.pointer a9]] ?_;(with_reducible refine(ih U2 (by have:=M0.out;have:=n5.out;have:=Q3.out;have:=R4.out;have:=U1.out;omega) (fun k_=>some k_=(.slice V5 Q6.length V6:Value).ownBlock) (.slice V5 Q6.length V6) Q6 a6 M2 (wrap64 ((IntKind.u64.wrap (wrap64 (a6+a8))) / 2)) _ b3 b4 U4 b5 _ ?side1 ?side2 ?side3 ?side4 U5.out).mono ?_);(case side1=>exact pB);(case side2=>exact Kd.R_tight rfl e8.out);(case side3=>exact Kd.C_kept_call d0.out (kK HK) (fun k_ hs_=>(fun e_=>(e8.out.1 k_ e_.symm)) hs_));(case side4=>exact d3.out);rintro e V7 ⟨rfl,R3,hb,hkp⟩;refine⟨_,rfl,?_⟩;replace HK:=aM (Kept.then_ (S:=(fun k_=>a5 k_)) (kK HK) hkp (fun k_ hs_=>(fun e_=>(e8.out.1 k_ e_.symm)) hs_));replace e8:=aM (Kd.R_reok rfl R3 (fun k_ e_=>e8.out.1 k_ e_));replace HB:=aM (hb);clear hb hkp R3)|((with_reducible refine gc 36 rfl ?_);refine gC 36 (some 219) Try.func36 #[.slice V5 Q6.length V6,.int .i64 (wrap64 ((IntKind.u64.wrap (wrap64 (a6+a8))) / 2)),.int .i64 (wrap64 ((wrap64 ((wrap64 ((IntKind.u64.wrap (wrap64 (a6+a8))) / 2))+a7)) - M2)),.int .i64 a8,.func (.func 16) #[] #[.pointer a9]] ?_;(with_reducible refine(ih U2 (by have:=M0.out;have:=n5.out;have:=Q3.out;have:=R4.out;have:=U1.out;omega) (fun k_=>some k_=(.slice V5 Q6.length V6:Value).ownBlock) (.slice V5 Q6.length V6) U4 (wrap64 ((IntKind.u64.wrap (wrap64 (a6+a8))) / 2)) (wrap64 ((wrap64 ((wrap64 ((IntKind.u64.wrap (wrap64 (a6+a8))) / 2))+a7)) - M2)) a8 _ b3 b4 V2 b5 _ ?side1 ?side2 ?side3 ?side4 V4.out).mono ?_);(case side1=>exact pB);(case side2=>exact Kd.R_tight rfl e8.out);(case side3=>exact Kd.C_kept_call d0.out (kK HK) (fun k_ hs_=>(fun e_=>(e8.out.1 k_ e_.symm)) hs_));(case side4=>exact d3.out);rintro e V8 ⟨rfl,R3,hb,hkp⟩;refine⟨_,rfl,?_⟩;replace HK:=aM (Kept.then_ (S:=(fun k_=>a5 k_)) (kK HK) hkp (fun k_ hs_=>(fun e_=>(e8.out.1 k_ e_.symm)) hs_));replace e8:=aM (Kd.R_reok rfl R3 (fun k_ e_=>e8.out.1 k_ e_));replace HB:=aM (hb);clear hb hkp R3))
                 first|go_end0|((try simp only[Exit.inBlock,Exit.then]);refine bodyPost_ret (results_none rfl _ _ _) rfl ?_)
                 exact⟨eW,rX e8.out,pB,kK HK⟩
                ·rw[if_neg U9] at H;have V0:decide ((wrap64 ((wrap64 ((wrap64 ((IntKind.u64.wrap (wrap64 (a6+a8))) / 2))+a7)) - M2)) < a8)=false:=decide_eq_false U9;have V1:decide ((IntKind.i64.wrap ((IntKind.i64.wrap ((IntKind.i64.wrap ((IntKind.u64.wrap (IntKind.i64.wrap (a6+a8))) / 2))+a7)) - M2)) < a8)=false:=by have h_:=V0;first|exact h_|(simp only[i64_w];exact h_)
                 clear U9;obtain rfl:=Option.some.inj H;obtain⟨V9,W0,rfl⟩:=Kd.R_slice e8.out;go_wp2_with (first|((with_reducible refine gc 36 rfl ?_);refine gC 36 (some 205) Try.func36 #[.slice V9 Q6.length W0,.int .i64 a6,.int .i64 M2,.int .i64 (wrap64 ((IntKind.u64.wrap (wrap64 (a6+a8))) / 2)),.func (.func 16) #[] #[.pointer a9]] ?_;(with_reducible refine(ih U2 (by have:=M0.out;have:=n5.out;have:=Q3.out;have:=R4.out;have:=U1.out;omega) (fun k_=>some k_=(.slice V9 Q6.length W0:Value).ownBlock) (.slice V9 Q6.length W0) Q6 a6 M2 (wrap64 ((IntKind.u64.wrap (wrap64 (a6+a8))) / 2)) _ b3 b4 U4 b5 _ ?side1 ?side2 ?side3 ?side4 U5.out).mono ?_);(case side1=>exact pB);(case side2=>exact Kd.R_tight rfl e8.out);(case side3=>exact Kd.C_kept_call d0.out (kK HK) (fun k_ hs_=>(fun e_=>(e8.out.1 k_ e_.symm)) hs_));(case side4=>exact d3.out);rintro e W3 ⟨rfl,R3,hb,hkp⟩;refine⟨_,rfl,?_⟩;replace HK:=aM (Kept.then_ (S:=(fun k_=>a5 k_)) (kK HK) hkp (fun k_ hs_=>(fun e_=>(e8.out.1 k_ e_.symm)) hs_));replace e8:=aM (Kd.R_reok rfl R3 (fun k_ e_=>e8.out.1 k_ e_));replace HB:=aM (hb);clear hb hkp R3))
                 first|go_end0|((try simp only[Exit.inBlock,Exit.then]);refine bodyPost_ret (results_none rfl _ _ _) rfl ?_)
                 exact⟨eW,rX e8.out,pB,kK HK⟩
               ·rw[if_neg U6] at H;have U7:decide ((wrap64 ((IntKind.u64.wrap (wrap64 (a6+a8))) / 2)) < (wrap64 ((wrap64 ((wrap64 ((IntKind.u64.wrap (wrap64 (a6+a8))) / 2))+a7)) - M2)))=false:=decide_eq_false U6;have U8:decide ((IntKind.i64.wrap ((IntKind.u64.wrap (IntKind.i64.wrap (a6+a8))) / 2)) < (IntKind.i64.wrap ((IntKind.i64.wrap ((IntKind.i64.wrap ((IntKind.u64.wrap (IntKind.i64.wrap (a6+a8))) / 2))+a7)) - M2)))=false:=by have h_:=U7;first|exact h_|(simp only[i64_w];exact h_)
                clear U6;obtain rfl:=Option.some.inj H;obtain⟨W4,W5,rfl⟩:=Kd.R_slice e8.out;go_wp2_with (first|((with_reducible refine gc 36 rfl ?_);refine gC 36 (some 205) Try.func36 #[.slice W4 Q6.length W5,.int .i64 a6,.int .i64 M2,.int .i64 (wrap64 ((IntKind.u64.wrap (wrap64 (a6+a8))) / 2)),.func (.func 16) #[] #[.pointer a9]] ?_;(with_reducible refine(ih U2 (by have:=M0.out;have:=n5.out;have:=Q3.out;have:=R4.out;have:=U1.out;omega) (fun k_=>some k_=(.slice W4 Q6.length W5:Value).ownBlock) (.slice W4 Q6.length W5) Q6 a6 M2 (wrap64 ((IntKind.u64.wrap (wrap64 (a6+a8))) / 2)) _ b3 b4 U4 b5 _ ?side1 ?side2 ?side3 ?side4 U5.out).mono ?_);(case side1=>exact pB);(case side2=>exact Kd.R_tight rfl e8.out);(case side3=>exact Kd.C_kept_call d0.out (kK HK) (fun k_ hs_=>(fun e_=>(e8.out.1 k_ e_.symm)) hs_));(case side4=>exact d3.out);rintro e W6 ⟨rfl,R3,hb,hkp⟩;refine⟨_,rfl,?_⟩;replace HK:=aM (Kept.then_ (S:=(fun k_=>a5 k_)) (kK HK) hkp (fun k_ hs_=>(fun e_=>(e8.out.1 k_ e_.symm)) hs_));replace e8:=aM (Kd.R_reok rfl R3 (fun k_ e_=>e8.out.1 k_ e_));replace HB:=aM (hb);clear hb hkp R3))
                first|go_end0|((try simp only[Exit.inBlock,Exit.then]);refine bodyPost_ret (results_none rfl _ _ _) rfl ?_)
                exact⟨eW,rX e8.out,pB,kK HK⟩
              ·obtain rfl:=bN U3;rw[if_neg nF] at H
               by_cases W7:(wrap64 ((IntKind.u64.wrap (wrap64 (a6+a8))) / 2)) < (wrap64 ((wrap64 ((wrap64 ((IntKind.u64.wrap (wrap64 (a6+a8))) / 2))+a7)) - M2))
               ·rw[if_pos W7] at H;have W8:decide ((wrap64 ((IntKind.u64.wrap (wrap64 (a6+a8))) / 2)) < (wrap64 ((wrap64 ((wrap64 ((IntKind.u64.wrap (wrap64 (a6+a8))) / 2))+a7)) - M2)))=true:=dE W7;have W9:decide ((IntKind.i64.wrap ((IntKind.u64.wrap (IntKind.i64.wrap (a6+a8))) / 2)) < (IntKind.i64.wrap ((IntKind.i64.wrap ((IntKind.i64.wrap ((IntKind.u64.wrap (IntKind.i64.wrap (a6+a8))) / 2))+a7)) - M2)))=true:=by have h_:=W8;first|exact h_|(simp only[i64_w];exact h_)
                clear W7;by_cases X0:(wrap64 ((wrap64 ((wrap64 ((IntKind.u64.wrap (wrap64 (a6+a8))) / 2))+a7)) - M2)) < a8
                ·rw[if_pos X0] at H;have X1:decide ((wrap64 ((wrap64 ((wrap64 ((IntKind.u64.wrap (wrap64 (a6+a8))) / 2))+a7)) - M2)) < a8)=true:=dE X0;have X2:decide ((IntKind.i64.wrap ((IntKind.i64.wrap ((IntKind.i64.wrap ((IntKind.u64.wrap (IntKind.i64.wrap (a6+a8))) / 2))+a7)) - M2)) < a8)=true:=by have h_:=X1;first|exact h_|(simp only[i64_w];exact h_)
                 clear X0;replace H:=bS H;obtain⟨X3,X4,H⟩:=H;replace H:(some X3)=some r:=H;have X5:=aM X4;clear X4;obtain rfl:=Option.some.inj H;obtain⟨X6,X7,rfl⟩:=Kd.R_slice e8.out;go_wp2_with (first|((with_reducible refine gc 36 rfl ?_);refine gC 36 (some 219) Try.func36 #[.slice X6 Q6.length X7,.int .i64 (wrap64 ((IntKind.u64.wrap (wrap64 (a6+a8))) / 2)),.int .i64 (wrap64 ((wrap64 ((wrap64 ((IntKind.u64.wrap (wrap64 (a6+a8))) / 2))+a7)) - M2)),.int .i64 a8,.func (.func 16) #[] #[.pointer a9]] ?_;(with_reducible refine(ih U2 (by have:=M0.out;have:=n5.out;have:=Q3.out;have:=R4.out;have:=U1.out;omega) (fun k_=>some k_=(.slice X6 Q6.length X7:Value).ownBlock) (.slice X6 Q6.length X7) Q6 (wrap64 ((IntKind.u64.wrap (wrap64 (a6+a8))) / 2)) (wrap64 ((wrap64 ((wrap64 ((IntKind.u64.wrap (wrap64 (a6+a8))) / 2))+a7)) - M2)) a8 _ b3 b4 X3 b5 _ ?side1 ?side2 ?side3 ?side4 X5.out).mono ?_);(case side1=>exact pB);(case side2=>exact Kd.R_tight rfl e8.out);(case side3=>exact Kd.C_kept_call d0.out (kK HK) (fun k_ hs_=>(fun e_=>(e8.out.1 k_ e_.symm)) hs_));(case side4=>exact d3.out);rintro e X8 ⟨rfl,R3,hb,hkp⟩;refine⟨_,rfl,?_⟩;replace HK:=aM (Kept.then_ (S:=(fun k_=>a5 k_)) (kK HK) hkp (fun k_ hs_=>(fun e_=>(e8.out.1 k_ e_.symm)) hs_));replace e8:=aM (Kd.R_reok rfl R3 (fun k_ e_=>e8.out.1 k_ e_));replace HB:=aM (hb);clear hb hkp R3))
                 first|go_end0|((try simp only[Exit.inBlock,Exit.then]);refine bodyPost_ret (results_none rfl _ _ _) rfl ?_)
                 exact⟨eW,rX e8.out,pB,kK HK⟩
                ·rw[if_neg X0] at H;have X1:decide ((wrap64 ((wrap64 ((wrap64 ((IntKind.u64.wrap (wrap64 (a6+a8))) / 2))+a7)) - M2)) < a8)=false:=decide_eq_false X0;have X2:decide ((IntKind.i64.wrap ((IntKind.i64.wrap ((IntKind.i64.wrap ((IntKind.u64.wrap (IntKind.i64.wrap (a6+a8))) / 2))+a7)) - M2)) < a8)=false:=by have h_:=X1;first|exact h_|(simp only[i64_w];exact h_)
                 clear X0;obtain rfl:=Option.some.inj H;go_wp2
                 first|go_end0|((try simp only[Exit.inBlock,Exit.then]);refine bodyPost_ret (results_none rfl _ _ _) rfl ?_)
                 exact⟨eW,rX e8.out,pB,kK HK⟩
               ·rw[if_neg W7] at H;have W8:decide ((wrap64 ((IntKind.u64.wrap (wrap64 (a6+a8))) / 2)) < (wrap64 ((wrap64 ((wrap64 ((IntKind.u64.wrap (wrap64 (a6+a8))) / 2))+a7)) - M2)))=false:=decide_eq_false W7;have W9:decide ((IntKind.i64.wrap ((IntKind.u64.wrap (IntKind.i64.wrap (a6+a8))) / 2)) < (IntKind.i64.wrap ((IntKind.i64.wrap ((IntKind.i64.wrap ((IntKind.u64.wrap (IntKind.i64.wrap (a6+a8))) / 2))+a7)) - M2)))=false:=by have h_:=W8;first|exact h_|(simp only[i64_w];exact h_)
                clear W7;obtain rfl:=Option.some.inj H;go_wp2
                first|go_end0|((try simp only[Exit.inBlock,Exit.then]);refine bodyPost_ret (results_none rfl _ _ _) rfl ?_)
                exact⟨eW,rX e8.out,pB,kK HK⟩

end Go.Proofs.Ytblifmmcmngdnaa.Print
