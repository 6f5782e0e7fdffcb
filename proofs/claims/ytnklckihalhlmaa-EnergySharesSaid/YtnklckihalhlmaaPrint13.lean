import Derived.Test.YtnklckihalhlmaaPrint0
import Derived.Test.YtnklckihalhlmaaPrint8
import Derived.Test.YtnklckihalhlmaaPrint11
namespace Go.Proofs.Ytnklckihalhlmaa.Print
open Go.RowKit Go.Proofs.YtnklckihalhlmaaW.PrintWords Go.Proofs.YtnklckihalhlmaaW.PrintLast Go.Proofs.YtnklckihalhlmaaW.PrintMore
attribute [local go_sem] max2_int min2_int max_two min_two max_three min_three max_four min_four
set_option linter.unusedVariables false
set_option maxRecDepth 100000
set_option linter.unusedSimpArgs false

mutual
def Azz.l0:Nat→List Int→Int→Int→Int→List (List Int)→Option (List Int)
 | 0,_,_,_,_,_=>none
 | k+1,x0,x1,x10,x11,x940=>if x10 < x11 then(if 0≤(wrap64 ((IntKind.u64.wrap (wrap64 (x10+x11))) / 2)) then(if(wrap64 ((IntKind.u64.wrap (wrap64 (x10+x11))) / 2)) < (x0.length:Int) then(if 0≤x1 then(if x1 < (x0.length:Int) then((Ezb.f (rd x0 (wrap64 ((IntKind.u64.wrap (wrap64 (x10+x11))) / 2))) (rd x0 x1) x940).bind fun t198=>(if t198 < 0 then(Azz.l0 k x0 x1 (wrap64 ((wrap64 ((IntKind.u64.wrap (wrap64 (x10+x11))) / 2))+1)) x11 x940) else(Azz.l0 k x0 x1 x10 (wrap64 ((IntKind.u64.wrap (wrap64 (x10+x11))) / 2)) x940))) else(none)) else(none)) else(none)) else(none)) else(Azz.l1 k x0 x10 x1)
def Azz.l1:Nat→List Int→Int→Int→Option (List Int)
 | 0,_,_,_=>none
 | k+1,x0,x10,x13=>if x13 < (wrap64 (x10 - 1)) then(if 0≤(wrap64 (x13+1)) then(if(wrap64 (x13+1)) < (x0.length:Int) then(if 0≤x13 then(if x13 < (x0.length:Int) then(Azz.l1 k ((x0.set (x13:Int).toNat (rd x0 (wrap64 (x13+1)))).set ((wrap64 (x13+1)):Int).toNat (rd x0 x13)) x10 (wrap64 (x13+1))) else(none)) else(none)) else(none)) else(none)) else(some x0)
def Azz.l2:Nat→List Int→Int→Int→Int→List (List Int)→Option (List Int)
 | 0,_,_,_,_,_=>none
 | k+1,x0,x2,x14,x15,x940=>if x14 < x15 then(if 0≤x2 then(if x2 < (x0.length:Int) then(if 0≤(wrap64 ((IntKind.u64.wrap (wrap64 (x14+x15))) / 2)) then(if(wrap64 ((IntKind.u64.wrap (wrap64 (x14+x15))) / 2)) < (x0.length:Int) then((Ezb.f (rd x0 x2) (rd x0 (wrap64 ((IntKind.u64.wrap (wrap64 (x14+x15))) / 2))) x940).bind fun t205=>(if t205 < 0 then(Azz.l2 k x0 x2 x14 (wrap64 ((IntKind.u64.wrap (wrap64 (x14+x15))) / 2)) x940) else(Azz.l2 k x0 x2 (wrap64 ((wrap64 ((IntKind.u64.wrap (wrap64 (x14+x15))) / 2))+1)) x15 x940))) else(none)) else(none)) else(none)) else(none)) else(Azz.l3 k x0 x14 x2)
def Azz.l3:Nat→List Int→Int→Int→Option (List Int)
 | 0,_,_,_=>none
 | k+1,x0,x14,x17=>if x17 > x14 then(if 0≤(wrap64 (x17 - 1)) then(if(wrap64 (x17 - 1)) < (x0.length:Int) then(if 0≤x17 then(if x17 < (x0.length:Int) then(Azz.l3 k ((x0.set (x17:Int).toNat (rd x0 (wrap64 (x17 - 1)))).set ((wrap64 (x17 - 1)):Int).toNat (rd x0 x17)) x14 (wrap64 (x17 - 1))) else(none)) else(none)) else(none)) else(none)) else(some x0)
def Azz.j4:Nat→List Int→Int→Int→Int→Int→Int→Int→Int→List (List Int)→Option (List Int)
 | 0,_,_,_,_,_,_,_,_,_=>none
 | k+1,x0,x1,x2,x3,x18,x19,x20,x21,x940=>Azz.l4 k x0 x1 x2 x3 x18 x19 x20 x21 (wrap64 (x19 - 1)) x940
def Azz.l4:Nat→List Int→Int→Int→Int→Int→Int→Int→Int→Int→List (List Int)→Option (List Int)
 | 0,_,_,_,_,_,_,_,_,_,_=>none
 | k+1,x0,x1,x2,x3,x18,x19,x20,x21,x22,x940=>if x20 < x21 then(if 0≤(wrap64 (x22 - (wrap64 ((IntKind.u64.wrap (wrap64 (x20+x21))) / 2)))) then(if(wrap64 (x22 - (wrap64 ((IntKind.u64.wrap (wrap64 (x20+x21))) / 2)))) < (x0.length:Int) then(if 0≤(wrap64 ((IntKind.u64.wrap (wrap64 (x20+x21))) / 2)) then(if(wrap64 ((IntKind.u64.wrap (wrap64 (x20+x21))) / 2)) < (x0.length:Int) then((Ezb.f (rd x0 (wrap64 (x22 - (wrap64 ((IntKind.u64.wrap (wrap64 (x20+x21))) / 2))))) (rd x0 (wrap64 ((IntKind.u64.wrap (wrap64 (x20+x21))) / 2))) x940).bind fun t212=>(if t212 < 0 then(Azz.l4 k x0 x1 x2 x3 x18 x19 x20 (wrap64 ((IntKind.u64.wrap (wrap64 (x20+x21))) / 2)) x22 x940) else(Azz.l4 k x0 x1 x2 x3 x18 x19 (wrap64 ((wrap64 ((IntKind.u64.wrap (wrap64 (x20+x21))) / 2))+1)) x21 x22 x940))) else(none)) else(none)) else(none)) else(none)) else(if x20 < x2 then(Azz.j6 k x0 x1 x2 x3 x18 x20 (wrap64 (x19 - x20)) (decide (x2 < (wrap64 (x19 - x20)))) x940) else(Azz.j6 k x0 x1 x2 x3 x18 x20 (wrap64 (x19 - x20)) false x940))
def Azz.j6:Nat→List Int→Int→Int→Int→Int→Int→Int→Bool→List (List Int)→Option (List Int)
 | 0,_,_,_,_,_,_,_,_,_=>none
 | k+1,x0,x1,x2,x3,x18,x20,x24,x185,x940=>if x185=true then((Azb.f k x0 x20 x2 x24 x940).bind fun t213=>(Azz.j7 k t213 x1 x3 x18 x20 x24 x940)) else(Azz.j7 k x0 x1 x3 x18 x20 x24 x940)
def Azz.j7:Nat→List Int→Int→Int→Int→Int→Int→List (List Int)→Option (List Int)
 | 0,_,_,_,_,_,_,_=>none
 | k+1,x0,x1,x3,x18,x20,x24,x940=>if x1 < x20 then(Azz.j8 k x0 x1 x3 x18 x20 x24 (decide (x20 < x18)) x940) else(Azz.j8 k x0 x1 x3 x18 x20 x24 false x940)
def Azz.j8:Nat→List Int→Int→Int→Int→Int→Int→Bool→List (List Int)→Option (List Int)
 | 0,_,_,_,_,_,_,_,_=>none
 | k+1,x0,x1,x3,x18,x20,x24,x199,x940=>if x199=true then((Azz.f k x0 x1 x20 x18 x940).bind fun t214=>(if x18 < x24 then(if x24 < x3 then((Azz.f k t214 x18 x24 x3 x940).bind fun t215=>(some t215)) else(some t214)) else(some t214))) else(if x18 < x24 then(if x24 < x3 then((Azz.f k x0 x18 x24 x3 x940).bind fun t216=>(some t216)) else(some x0)) else(some x0))
def Azz.f:Nat→List Int→Int→Int→Int→List (List Int)→Option (List Int)
 | 0,_,_,_,_,_=>none
 | k+1,l0,a1,a2,a3,l4_0=>if(wrap64 (a2 - a1))=1 then(Azz.l0 k l0 a1 a2 a3 l4_0) else(if(wrap64 (a3 - a2))=1 then(Azz.l2 k l0 a2 a1 a2 l4_0) else(if a2 > (wrap64 ((IntKind.u64.wrap (wrap64 (a1+a3))) / 2)) then(Azz.j4 k l0 a1 a2 a3 (wrap64 ((IntKind.u64.wrap (wrap64 (a1+a3))) / 2)) (wrap64 ((wrap64 ((IntKind.u64.wrap (wrap64 (a1+a3))) / 2))+a2)) (wrap64 ((wrap64 ((wrap64 ((IntKind.u64.wrap (wrap64 (a1+a3))) / 2))+a2)) - a3)) (wrap64 ((IntKind.u64.wrap (wrap64 (a1+a3))) / 2)) l4_0) else(Azz.j4 k l0 a1 a2 a3 (wrap64 ((IntKind.u64.wrap (wrap64 (a1+a3))) / 2)) (wrap64 ((wrap64 ((IntKind.u64.wrap (wrap64 (a1+a3))) / 2))+a2)) a1 a2 l4_0)))
end
theorem Azz.mono_l:∀ k,(∀ a6 a7 a8 a9 b3,LeO (Azz.f k a6 a7 a8 a9 b3) (Azz.f (k+1) a6 a7 a8 a9 b3))∧(∀ a6 a7 a8 a9 b3,LeO (Azz.l0 k a6 a7 a8 a9 b3) (Azz.l0 (k+1) a6 a7 a8 a9 b3))∧(∀ a6 a7 a8,LeO (Azz.l1 k a6 a7 a8) (Azz.l1 (k+1) a6 a7 a8))∧(∀ a6 a7 a8 a9 b3,LeO (Azz.l2 k a6 a7 a8 a9 b3) (Azz.l2 (k+1) a6 a7 a8 a9 b3))∧(∀ a6 a7 a8,LeO (Azz.l3 k a6 a7 a8) (Azz.l3 (k+1) a6 a7 a8))∧(∀ a6 a7 a8 a9 b3 b4 b5 b6 b7,LeO (Azz.j4 k a6 a7 a8 a9 b3 b4 b5 b6 b7) (Azz.j4 (k+1) a6 a7 a8 a9 b3 b4 b5 b6 b7))∧(∀ a6 a7 a8 a9 b3 b4 b5 b6 b7 b8,LeO (Azz.l4 k a6 a7 a8 a9 b3 b4 b5 b6 b7 b8) (Azz.l4 (k+1) a6 a7 a8 a9 b3 b4 b5 b6 b7 b8))∧(∀ a6 a7 a8 a9 b3 b4 b5 b6 b7,LeO (Azz.j6 k a6 a7 a8 a9 b3 b4 b5 b6 b7) (Azz.j6 (k+1) a6 a7 a8 a9 b3 b4 b5 b6 b7))∧(∀ a6 a7 a8 a9 b3 b4 b5,LeO (Azz.j7 k a6 a7 a8 a9 b3 b4 b5) (Azz.j7 (k+1) a6 a7 a8 a9 b3 b4 b5))∧(∀ a6 a7 a8 a9 b3 b4 b5 b6,LeO (Azz.j8 k a6 a7 a8 a9 b3 b4 b5 b6) (Azz.j8 (k+1) a6 a7 a8 a9 b3 b4 b5 b6))
 | 0=>⟨fun _ _ _ _ _ r h=>by simp [Azz.f] at h,fun _ _ _ _ _ r h=>by simp [Azz.l0] at h,fun _ _ _ r h=>by simp [Azz.l1] at h,fun _ _ _ _ _ r h=>by simp [Azz.l2] at h,fun _ _ _ r h=>by simp [Azz.l3] at h,fun _ _ _ _ _ _ _ _ _ r h=>by simp [Azz.j4] at h,fun _ _ _ _ _ _ _ _ _ _ r h=>by simp [Azz.l4] at h,fun _ _ _ _ _ _ _ _ _ r h=>by simp [Azz.j6] at h,fun _ _ _ _ _ _ _ r h=>by simp [Azz.j7] at h,fun _ _ _ _ _ _ _ _ r h=>by simp [Azz.j8] at h⟩
 | k+1=>by
  obtain⟨ih0,ih1,ih2,ih3,ih4,ih5,ih6,ih7,ih8,ih9⟩:=Azz.mono_l k;have i0:=@Azb.mono;refine⟨?_,?_,?_,?_,?_,?_,?_,?_,?_,?_⟩
  ·intro a6 a7 a8 a9 b3;unfold Azz.f;exact mM
  ·intro a6 a7 a8 a9 b3;unfold Azz.l0;exact mM
  ·intro a6 a7 a8;unfold Azz.l1;exact mM
  ·intro a6 a7 a8 a9 b3;unfold Azz.l2;exact mM
  ·intro a6 a7 a8;unfold Azz.l3;exact mM
  ·intro a6 a7 a8 a9 b3 b4 b5 b6 b7;unfold Azz.j4;exact mM
  ·intro a6 a7 a8 a9 b3 b4 b5 b6 b7 b8;unfold Azz.l4;exact mM
  ·intro a6 a7 a8 a9 b3 b4 b5 b6 b7;unfold Azz.j6;exact mM
  ·intro a6 a7 a8 a9 b3 b4 b5;unfold Azz.j7;exact mM
  ·intro a6 a7 a8 a9 b3 b4 b5 b6;unfold Azz.j8;exact mM
theorem Azz.mono:∀ a6 a7 a8 a9 b3 k,LeO (Azz.f k a6 a7 a8 a9 b3) (Azz.f (k+1) a6 a7 a8 a9 b3):=by
 intro a6 a7 a8 a9 b3 k;obtain⟨ih0,ih1,ih2,ih3,ih4,ih5,ih6,ih7,ih8,ih9⟩:=Azz.mono_l k;exact ih0 a6 a7 a8 a9 b3
def Azz.T5:Bool × List (List Nat × List Nat):=(true,[([],[]),([],[]),([],[]),([1,2],[1,2]),([3],[3]),([],[]),([],[]),([5,6],[5,6]),([7],[7]),([0,4,8],[0,4,8]),([9],[9])])
def Azz.B5:List Nat:=[0,0,0,6,14,0,0,96,224,511,1023]
theorem Azz.tab5:rtab .any (opsOf Try.f89 5)=Azz.T5:=by kernel_rfl
theorem Azz.bits5:waitsOk Azz.T5.2 Azz.B5=true:=by kernel_rfl
def Azz.T11:Bool × List (List Nat × List Nat):=(true,[([],[]),([],[]),([],[]),([],[]),([3],[3]),([],[]),([],[]),([6],[6]),([5,7],[5,7]),([8],[8]),([],[]),([],[]),([10,11],[10,11]),([12],[12]),([0,1,0,1,5,6,7,8,9,13],[0,1]),([14,9,0,1,5,6,7,8,9,13],[9,14]),([2,4,0,1,2,3,4,5,6,7,8,9,10,11,12,13,14,15],[2,4]),([16,13,15,0,1,2,3,4,5,6,7,8,9,10,11,12,13,14,15],[13,16])])
def Azz.B11:List Nat:=[0,0,0,0,8,0,0,64,224,480,0,0,3072,7168,16355,32739,65535,131071]
theorem Azz.tab11:rtab .any (opsOf Try.f89 11)=Azz.T11:=by kernel_rfl
theorem Azz.bits11:waitsOk Azz.T11.2 Azz.B11=true:=by kernel_rfl
def Azz.T17:Bool × List (List Nat × List Nat):=(true,[([],[]),([],[]),([],[]),([1,2],[1,2]),([3],[3]),([],[]),([],[]),([5,6],[5,6]),([7],[7]),([0,4,8],[0,4,8]),([9],[9]),([10],[10])])
def Azz.B17:List Nat:=[0,0,0,6,14,0,0,96,224,511,1023,2047]
theorem Azz.tab17:rtab .any (opsOf Try.f89 17)=Azz.T17:=by kernel_rfl
theorem Azz.bits17:waitsOk Azz.T17.2 Azz.B17=true:=by kernel_rfl
def Azz.T23:Bool × List (List Nat × List Nat):=(true,[([],[]),([],[]),([],[]),([],[]),([3],[3]),([],[]),([],[]),([6],[6]),([5,7],[5,7]),([8],[8]),([],[]),([],[]),([10,11],[10,11]),([12],[12]),([0,1,0,1,5,6,7,8,9,13],[0,1]),([14,9,0,1,5,6,7,8,9,13],[9,14]),([2,4,0,1,2,3,4,5,6,7,8,9,10,11,12,13,14,15],[2,4]),([16,13,15,0,1,2,3,4,5,6,7,8,9,10,11,12,13,14,15],[13,16])])
def Azz.B23:List Nat:=[0,0,0,0,8,0,0,64,224,480,0,0,3072,7168,16355,32739,65535,131071]
theorem Azz.tab23:rtab .any (opsOf Try.f89 23)=Azz.T23:=by kernel_rfl
theorem Azz.bits23:waitsOk Azz.T23.2 Azz.B23=true:=by kernel_rfl
def Azz.T35:Bool × List (List Nat × List Nat):=(true,[([],[]),([],[]),([],[]),([],[]),([2,3],[2,3]),([1,4],[1,4]),([5],[5]),([],[]),([],[]),([7,8],[7,8]),([9],[9]),([0,6,10],[0,6,10]),([11],[11]),([12],[12])])
def Azz.B35:List Nat:=[0,0,0,0,12,30,62,0,0,384,896,2047,4095,8191]
theorem Azz.tab35:rtab .any (opsOf Try.f89 35)=Azz.T35:=by kernel_rfl
theorem Azz.bits35:waitsOk Azz.T35.2 Azz.B35=true:=by kernel_rfl
set_option maxHeartbeats 64000000 in
theorem Azz.calls (k:Nat):∀ (a6:Nat→Prop) (u9000_:Value) (l0:List Int) (a7:Int) (a8:Int) (a9:Int) (b3:Option Addr) (b4:Nat) (b5:List (List Int)) (r:List Int) (b6 w:World) (hB:Below b6.heap.size b6 w) (b7:Kd.R (Kd.int .i64) 3 w b6.heap.size a6 u9000_ l0) (b8:∀ W_,Kept w W_ (fun k_=>a6 k_)→Kd.C (Kd.slice 3 (Kd.int .i64)) W_ b3 b5.length b5) (b9:b5.length≤b4) (h:Azz.f k l0 a7 a8 a9 b5=some r),
  Calls Try.prog 89 #[u9000_,.int .i64 a7,.int .i64 a8,.int .i64 a9,.func (.func 55) #[] #[.pointer b3]] w fun e w'=>e=.returned (.tuple #[])∧Kd.R (Kd.int .i64) 3 w' b6.heap.size (fun k_=>(a6 k_∨w.heap.size≤k_)) u9000_ r∧Below b6.heap.size b6 w'∧Kept w w' (fun k_=>a6 k_):=by
 induction k using Nat.strongRecOn with
 | _ k ih =>
 intro a6 u9000_ l0 a7 a8 a9 b3 b4 b5 r b6 w hB b7 b8 b9 h;cases k with
 | zero=>exact absurd h (by simp [Azz.f])
 | succ k =>
 simp only[Azz.f] at h;have d0:=aM (show Kd.R (Kd.int .i64) 3 w b6.heap.size (fun k_=>(a6 k_∨w.heap.size≤k_)) u9000_ l0 from Kd.R_mono b7 (fun k_ hk=>(.inl hk)))
 have d1:=aM b8;have d3:=aM b9;clear b8 b9;have HK:=aM (Kept.refl w (fun k_=>a6 k_))
 have HW0:=aM hB.size;have HB:=aM hB;clear hB;have H:(if(wrap64 (a8 - a7))=1 then(Azz.l0 k l0 a7 a8 a9 b5) else(if(wrap64 (a9 - a8))=1 then(Azz.l2 k l0 a8 a7 a8 b5) else(if a8 > (wrap64 ((IntKind.u64.wrap (wrap64 (a7+a9))) / 2)) then(Azz.j4 k l0 a7 a8 a9 (wrap64 ((IntKind.u64.wrap (wrap64 (a7+a9))) / 2)) (wrap64 ((wrap64 ((IntKind.u64.wrap (wrap64 (a7+a9))) / 2))+a8)) (wrap64 ((wrap64 ((wrap64 ((IntKind.u64.wrap (wrap64 (a7+a9))) / 2))+a8)) - a9)) (wrap64 ((IntKind.u64.wrap (wrap64 (a7+a9))) / 2)) b5) else(Azz.j4 k l0 a7 a8 a9 (wrap64 ((IntKind.u64.wrap (wrap64 (a7+a9))) / 2)) (wrap64 ((wrap64 ((IntKind.u64.wrap (wrap64 (a7+a9))) / 2))+a8)) a7 a8 b5))))=some r:=h
 clear h;by_cases c6:(wrap64 (a8 - a7))=1
 ·rw[if_pos c6] at H;obtain⟨d4,d5⟩:=bE c6;clear c6;have H':=aM H;clear H;go_enter Try.func89,Try.ntmps89
  go_wp2
  go_loopg [10,11] k (fun kq d6 d7 w'=>∃ (d8:Int) (d9:Int),d6=.int .i64 d8∧d7=.int .i64 d9∧Aside0 (Azz.l0 kq l0 a7 d8 d9 b5=some r)∧Aside0 (kq≤k)∧Aside0 (Kd.R (Kd.int .i64) 3 w' b6.heap.size (fun k_=>(a6 k_∨w.heap.size≤k_)) u9000_ l0)∧Aside0 (Kept w w' (fun k_=>a6 k_))∧Aside0 (Below b6.heap.size b6 w'))
  case atStart=>exact⟨(a8),(a9),sD,sD,H',⟨Nat.le_refl _⟩,⟨rX d0.out⟩,⟨kK HK⟩,⟨pB⟩⟩
  case round =>
   clear H';try clear p2
   obtain⟨d8,d9,rfl,rfl,HA,e6,e7,HK,HB⟩:=hrel;cases gk with
   | zero=>exact absurd HA.out (by simp [Azz.l0])
   | succ k1 =>
    have H:=HA.out;clear HA;simp only[Azz.l0] at H;by_cases c7:d8 < d9
    ·rw[if_pos c7] at H;have e8:=dE c7;clear c7;obtain⟨f3,f4⟩:∃ j_:Int,(wrap64 ((IntKind.u64.wrap (wrap64 (d8+d9))) / 2))=j_:=⟨_,rfl⟩;replace H:(if 0≤(f3) then(if(f3) < (l0.length:Int) then(if 0≤a7 then(if a7 < (l0.length:Int) then((Ezb.f (rd l0 (f3)) (rd l0 a7) b5).bind fun f5=>(if f5 < 0 then(Azz.l0 k1 l0 a7 (wrap64 ((f3)+1)) d9 b5) else(Azz.l0 k1 l0 a7 d8 f3 b5))) else(none)) else(none)) else(none)) else(none))=some r:=by first|(rw[f4] at H;exact H)|(simp only[f4] at H ⊢;exact H)
     have f6:(IntKind.i64.wrap ((IntKind.u64.wrap (wrap64 (d8+d9))) / 2))=f3:=(i64_w _).trans f4;obtain⟨f7,H⟩:=iN H;obtain⟨f8,H⟩:=iN H;obtain⟨f9,H⟩:=iN H;obtain⟨g6,H⟩:=iN H;obtain⟨f5,g7,H⟩:=bT H;(try dsimp only at H);by_cases g8:f5 < 0
     ·rw[if_pos g8] at H;have g9:=dE g8;clear g8;have H':=aM H;clear H;try go_wp2
      have n0_:=aM (Kd.R_drew e7.out);have n1_:=aM (Kept.drew HK.out);have n2_:=aM (below_drew1 HB.out);clear e7 HK HB;have e7:=n0_;have HK:=n1_;have HB:=n2_;clear n0_ n1_ n2_;obtain⟨j5,j9,l5⟩:=Kd.R_slice e7.out;(first|subst l5|(injection l5 with f1_ f2_ f3_;have f4_:=f1_.symm;have f5_:=f3_.symm;clear f1_ f2_ f3_;subst f4_;subst f5_))
      obtain⟨l6,l7,l8,l9,m4⟩:=aI (Kd.R_reads' e7.out).2.2 (f3);cases l7;obtain⟨m5,m6,m7,m8,m9⟩:=aI (Kd.R_reads' e7.out).2.2 a7;obtain rfl:l6=m5:=(by injection m6);refine start_ (n:=11) (S:=fun w'=>w'.cell? (l6.add ((f3)).toNat)=some (.int .i64 (rd l0 (f3)))∧w'.cell? (l6.add (a7).toNat)=some (.int .i64 (rd l0 a7))) (ds:=[]) (bA 11 0) (by kernel_rfl) rfl rfl ⟨l8,m7⟩ (fun hHeld=>?_);refine with_tabW Azz.tab5 Azz.bits5 (fun HT_ HW_=>?_)
      generalize wr.drew=n0 at e7 HK HB l8 m7 hHeld ⊢;refine pS 0 40 HT_ ?_;refine pS 1 41 HT_ ?_;refine pS 2 42 HT_ ?_;refine pS 3 43 HT_ ?_;refine pS 5 45 HT_ ?_;refine pS 6 46 HT_ ?_;refine pS 7 47 HT_ ?_;refine tU 4 44 HT_ HW_ hHeld ?_;refine tU 8 48 HT_ HW_ hHeld ?_;refine oU 9 (some 49) HT_ fun K hK=>?_
      refine goesv_ Try.func55 (by kernel_rfl) rfl #[.int .i64 (rd l0 (f3)),.int .i64 (rd l0 a7),.pointer b3] (by rfl) rfl rfl (by(try simp only[List.map_toArray,List.map_cons,List.map_nil]);first|done|(simp only[f4];rfl)|rfl|(simp only[List.length_drop,List.length_take];rfl)) ?_
      with_reducible refine(Ezb.calls (rd l0 (f3)) (rd l0 a7) _ b4 b5 f5 _ ?side1 ?side2 g7.out).mono ?_
      (case side1=>exact Kd.C_kept_now d1.out (kK HK))
      (case side2=>exact d3.out)
      rintro e w' ⟨rfl,⟨nd,rfl⟩⟩;refine⟨_,rfl,?_⟩;refine hK.out _ _ ⟨hHeld.1,hHeld.2⟩ (fun hHeld=>?_)
      clear hK K;refine nm 49 ?_;refine pS 10 50 HT_ ?_;refine done_ (done_of HT_.out (by kernel_rfl)) ?_
      try go_wp2
      go_roundg k1
      case measure=>have:=e6.out;omega
      case rel=>exact⟨(wrap64 ((f3)+1)),(d9),(by first|rfl|(simp;done)|(simp only[← f4] <;> (first|rfl|simp))|(simp [*];done)),sD,H',⟨by have:=e6.out;omega⟩,⟨rX e7.out⟩,⟨kK HK⟩,⟨pB⟩⟩
     ·rw[if_neg g8] at H;have g9:decide (f5 < 0)=false:=decide_eq_false g8;clear g8;have H':=aM H;clear H;try go_wp2
      have n0_:=aM (Kd.R_drew e7.out);have n1_:=aM (Kept.drew HK.out);have n2_:=aM (below_drew1 HB.out);clear e7 HK HB;have e7:=n0_;have HK:=n1_;have HB:=n2_;clear n0_ n1_ n2_;obtain⟨n1,n2,n3⟩:=Kd.R_slice e7.out;(first|subst n3|(injection n3 with f1_ f2_ f3_;have f4_:=f1_.symm;have f5_:=f3_.symm;clear f1_ f2_ f3_;subst f4_;subst f5_))
      obtain⟨l6,l7,l8,l9,m4⟩:=aI (Kd.R_reads' e7.out).2.2 (f3);cases l7;obtain⟨m5,m6,m7,m8,m9⟩:=aI (Kd.R_reads' e7.out).2.2 a7;obtain rfl:l6=m5:=(by injection m6);refine start_ (n:=11) (S:=fun w'=>w'.cell? (l6.add ((f3)).toNat)=some (.int .i64 (rd l0 (f3)))∧w'.cell? (l6.add (a7).toNat)=some (.int .i64 (rd l0 a7))) (ds:=[]) (bA 11 0) (by kernel_rfl) rfl rfl ⟨l8,m7⟩ (fun hHeld=>?_);refine with_tabW Azz.tab5 Azz.bits5 (fun HT_ HW_=>?_)
      generalize wr.drew=n4 at e7 HK HB l8 m7 hHeld ⊢;refine pS 0 40 HT_ ?_;refine pS 1 41 HT_ ?_;refine pS 2 42 HT_ ?_;refine pS 3 43 HT_ ?_;refine pS 5 45 HT_ ?_;refine pS 6 46 HT_ ?_;refine pS 7 47 HT_ ?_;refine tU 4 44 HT_ HW_ hHeld ?_;refine tU 8 48 HT_ HW_ hHeld ?_;refine oU 9 (some 49) HT_ fun K hK=>?_
      refine goesv_ Try.func55 (by kernel_rfl) rfl #[.int .i64 (rd l0 (f3)),.int .i64 (rd l0 a7),.pointer b3] (by rfl) rfl rfl (by(try simp only[List.map_toArray,List.map_cons,List.map_nil]);first|done|(simp only[f4];rfl)|rfl|(simp only[List.length_drop,List.length_take];rfl)) ?_
      with_reducible refine(Ezb.calls (rd l0 (f3)) (rd l0 a7) _ b4 b5 f5 _ ?side1 ?side2 g7.out).mono ?_
      (case side1=>exact Kd.C_kept_now d1.out (kK HK))
      (case side2=>exact d3.out)
      rintro e w' ⟨rfl,⟨nd,rfl⟩⟩;refine⟨_,rfl,?_⟩;refine hK.out _ _ ⟨hHeld.1,hHeld.2⟩ (fun hHeld=>?_)
      clear hK K;refine nm 49 ?_;refine pS 10 50 HT_ ?_;refine done_ (done_of HT_.out (by kernel_rfl)) ?_
      try go_wp2
      go_roundg k1
      case measure=>have:=e6.out;omega
      case rel=>exact⟨(d8),(f3),sD,(by first|rfl|(simp;done)|(simp only[← f4] <;> (first|rfl|simp))|(simp [*];done)),H',⟨by have:=e6.out;omega⟩,⟨rX e7.out⟩,⟨kK HK⟩,⟨pB⟩⟩
    ·rw[if_neg c7] at H;have e8:decide (d8 < d9)=false:=decide_eq_false c7;clear c7;have H':=aM H;clear H;go_wp2
     go_loopg [13] k1 (fun kq n5 w'=>∃ (n6:List Int) (n7:Int),n5=.int .i64 n7∧Aside0 (Azz.l1 kq n6 d8 n7=some r)∧Aside0 (kq≤k1)∧Aside0 (Kd.R (Kd.int .i64) 3 w' b6.heap.size (fun k_=>(a6 k_∨w.heap.size≤k_)) u9000_ n6)∧Aside0 (Kept w w' (fun k_=>a6 k_))∧Aside0 (Below b6.heap.size b6 w'))
     case atStart=>exact⟨(l0),(a7),sD,H',⟨Nat.le_refl _⟩,⟨rX e7.out⟩,⟨kK HK⟩,⟨pB⟩⟩
     case round =>
      clear H';try clear n8
      obtain⟨n6,n7,rfl,HA,n9,e7,HK,HB⟩:=hrel;cases gk with
      | zero=>exact absurd HA.out (by simp [Azz.l1])
      | succ k2 =>
       have H:=HA.out;clear HA;simp only[Azz.l1] at H;by_cases o0:n7 < (wrap64 (d8 - 1))
       ·rw[if_pos o0] at H;have o1:=dE o0;have o2:decide (n7 < (IntKind.i64.wrap (d8 - 1)))=true:=by have h_:=o1;first|exact h_|(simp only[i64_w];exact h_)
        clear o0;obtain⟨o3,o4⟩:∃ j_:Int,(wrap64 (n7+1))=j_:=⟨_,rfl⟩;replace H:(if 0≤(o3) then(if(o3) < (n6.length:Int) then(if 0≤n7 then(if n7 < (n6.length:Int) then(Azz.l1 k2 ((n6.set (n7:Int).toNat (rd n6 (o3))).set ((o3):Int).toNat (rd n6 n7)) d8 o3) else(none)) else(none)) else(none)) else(none))=some r:=by first|(rw[o4] at H;exact H)|(simp only[o4] at H ⊢;exact H)
        have o5:(IntKind.i64.wrap (n7+1))=o3:=(i64_w _).trans o4;obtain⟨o6,H⟩:=iN H;obtain⟨o7,H⟩:=iN H;obtain⟨o8,H⟩:=iN H;obtain⟨o9,H⟩:=iN H;obtain⟨p3,p7⟩:∃ y_:List Int,y_=(n6.set (n7:Int).toNat (rd n6 (o3))):=⟨_,rfl⟩;replace H:(Azz.l1 k2 (p3.set ((o3):Int).toNat (rd n6 n7)) d8 o3)=some r:=yE p7 H
        have p9:=aM p7;clear p7;obtain⟨r5,r6⟩:∃ y_:List Int,y_=(p3.set ((o3):Int).toNat (rd n6 n7)):=⟨_,rfl⟩;replace H:(Azz.l1 k2 r5 d8 o3)=some r:=yE r6 H
        have r7:=aM r6;clear r6;have H':=aM H;clear H;try go_wp2
        have n0_:=aM (Kd.R_drew e7.out);have n1_:=aM (Kept.drew HK.out);have n2_:=aM (below_drew1 HB.out);clear e7 HK HB;have e7:=n0_;have HK:=n1_;have HB:=n2_;clear n0_ n1_ n2_;obtain⟨r8,r9,t0⟩:=Kd.R_slice e7.out;(first|subst t0|(injection t0 with f1_ f2_ f3_;have f4_:=f1_.symm;have f5_:=f3_.symm;clear f1_ f2_ f3_;subst f4_;subst f5_))
        obtain⟨t1,t2,t3,t4,t5⟩:=aI (Kd.R_reads' e7.out).2.2 (o3);cases t2;obtain⟨t6,t7,t8,t9,z3⟩:=aI (Kd.R_reads' e7.out).2.2 n7;obtain rfl:t1=t6:=(by injection t7);have z4:0≤(n7:Int):=oE aS
        have z5:(n7:Int) < ((n6.length:Int):Int):=oE aS
        obtain⟨z6,z7,z8,z9,B0,B1,B8⟩:=Kd.R_form e7.out (by omega)
        (first|cases z8|(injection z8 with ea_ en_ ec_;(first|subst ea_|(injection ea_ with ea_;subst ea_));subst ec_;clear en_))
        have C0:=aM z9;have C1:=aM B8;clear z9 B0 B8;have HMgo25:=aM (show(a6 z6∨w.heap.size≤z6) from(e7.out.1 _ rfl))
        (first|simp only[add_plain] at t3|skip)
        (first|simp only[add_plain] at t8|skip)
        obtain⟨C2,C3⟩:=Kd.R_celln 0 e7.out (n7:Int) z4 z5;replace z4:=eq_true z4;replace z5:=eq_true z5;have C4:=Kd.R_putn e7.out (n7:Int) (rd n6 (o3));rw[← p9.out] at C4;have C6:=aM C4;clear C4;obtain⟨C7,C8⟩:=Kd.R_celln 0 C6.out ((o3):Int) (oE aS) (oE aS);have C9:=eT ((o3));have D0:=eU ((o3)) n6.length;have D1:=Kd.R_putn C6.out ((o3):Int) (rd n6 n7);rw[← r7.out] at D1;have D2:=aM D1;clear D1;refine start_ (n:=18) (S:=fun w'=>w'.cell? ⟨z6,((o3)).toNat,none⟩=some (.int .i64 (rd n6 (o3)))∧w'.cell? ⟨z6,(n7).toNat,none⟩=some (.int .i64 (rd n6 n7))) (ds:=[15,17]) (bA 18 0) (by kernel_rfl) rfl rfl ⟨t3,t8⟩ (fun hHeld=>?_);refine with_tabW Azz.tab11 Azz.bits11 (fun HT_ HW_=>?_)
        generalize wr.drew=D3 at e7 HK HB C1 C6 D2 C3 C8 t3 t8 C2 C7 hHeld ⊢;refine pS 0 61 HT_ ?_;refine pS 1 62 HT_ ?_;refine pS 2 63 HT_ ?_;refine pS 3 64 HT_ ?_;refine pS 4 65 HT_ ?_;refine pS 5 66 HT_ ?_;refine pS 6 67 HT_ ?_;refine pS 7 68 HT_ ?_;refine pS 8 69 HT_ ?_;refine pS 10 71 HT_ ?_;refine pS 11 72 HT_ ?_;refine pS 12 73 HT_ ?_;refine tU 9 70 HT_ HW_ hHeld ?_;refine tU 13 74 HT_ HW_ hHeld ?_;refine pS 14 75 HT_ ?_;refine lU 15 none HT_ fun K hK=>?_
        refine skip_ (w1:=?_) (by rfl) rfl ?_ ?_
        rotate_left
        ·go_simp
         rfl
        refine hK.out _ _ ?_;clear hK K;refine pS 16 76 HT_ ?_;refine lU 17 none HT_ fun K hK=>?_
        refine skip_ (w1:=?_) (by rfl) rfl ?_ ?_
        rotate_left
        ·go_simp
         rfl
        refine hK.out _ _ ?_;clear hK K;refine done_ (done_of HT_.out (by kernel_rfl)) ?_
        try go_wp2
        go_roundg k2
        case measure=>have:=e6.out;have:=n9.out;omega
        case rel=>exact⟨(r5),(o3),(by first|rfl|(simp;done)|(simp only[← o4] <;> (first|rfl|simp))|(simp [*];done)),H',⟨by have:=e6.out;have:=n9.out;omega⟩,⟨rX D2.out⟩,⟨by repeat(first|(with_reducible first|exact HK.out|apply Kept.alloc|apply Kept.drewN|apply Kept.drew|refine Kept.setCell ?_ HMgo25.out _|refine Kept.setCell ?_ HMgo25.out _)|exact HK.out)⟩,⟨pB⟩⟩
       ·rw[if_neg o0] at H;have o1:decide (n7 < (wrap64 (d8 - 1)))=false:=decide_eq_false o0;have o2:decide (n7 < (IntKind.i64.wrap (d8 - 1)))=false:=by have h_:=o1;first|exact h_|(simp only[i64_w];exact h_)
        clear o0;obtain rfl:=Option.some.inj H;go_wp2
        first|go_end0|((try simp only[Exit.inBlock,Exit.then]);refine bodyPost_ret (results_none rfl _ _ _) rfl ?_)
        exact⟨eW,rX e7.out,pB,kK HK⟩
 ·rw[if_neg c6] at H;obtain⟨d4,d5⟩:=bI c6;by_cases D4:(wrap64 (a9 - a8))=1
  ·rw[if_pos D4] at H;obtain⟨D5,D6⟩:=bE D4;clear D4;have H':=aM H;clear H;go_enter Try.func89,Try.ntmps89
   go_wp2
   go_loopg [14,15] k (fun kq D7 D8 w'=>∃ (D9:Int) (E3:Int),D7=.int .i64 D9∧D8=.int .i64 E3∧Aside0 (Azz.l2 kq l0 a8 D9 E3 b5=some r)∧Aside0 (kq≤k)∧Aside0 (Kd.R (Kd.int .i64) 3 w' b6.heap.size (fun k_=>(a6 k_∨w.heap.size≤k_)) u9000_ l0)∧Aside0 (Kept w w' (fun k_=>a6 k_))∧Aside0 (Below b6.heap.size b6 w'))
   case atStart=>exact⟨(a7),(a8),sD,sD,H',⟨Nat.le_refl _⟩,⟨rX d0.out⟩,⟨kK HK⟩,⟨pB⟩⟩
   case round =>
    clear H';try clear n8
    obtain⟨D9,E3,rfl,rfl,HA,e6,e7,HK,HB⟩:=hrel;cases gk with
    | zero=>exact absurd HA.out (by simp [Azz.l2])
    | succ k1 =>
     have H:=HA.out;clear HA;simp only[Azz.l2] at H;by_cases E4:D9 < E3
     ·rw[if_pos E4] at H;have E5:=dE E4;clear E4;obtain⟨E6,H⟩:=iN H;obtain⟨E7,H⟩:=iN H;obtain⟨E8,E9⟩:∃ j_:Int,(wrap64 ((IntKind.u64.wrap (wrap64 (D9+E3))) / 2))=j_:=⟨_,rfl⟩;replace H:(if 0≤(E8) then(if(E8) < (l0.length:Int) then((Ezb.f (rd l0 a8) (rd l0 (E8)) b5).bind fun F0=>(if F0 < 0 then(Azz.l2 k1 l0 a8 D9 E8 b5) else(Azz.l2 k1 l0 a8 (wrap64 ((E8)+1)) E3 b5))) else(none)) else(none))=some r:=by first|(rw[E9] at H;exact H)|(simp only[E9] at H ⊢;exact H)
      have F1:(IntKind.i64.wrap ((IntKind.u64.wrap (wrap64 (D9+E3))) / 2))=E8:=(i64_w _).trans E9;obtain⟨F2,H⟩:=iN H;obtain⟨F3,H⟩:=iN H;obtain⟨F0,F4,H⟩:=bT H;(try dsimp only at H);by_cases F5:F0 < 0
      ·rw[if_pos F5] at H;have F6:=dE F5;clear F5;have H':=aM H;clear H;try go_wp2
       have n0_:=aM (Kd.R_drew e7.out);have n1_:=aM (Kept.drew HK.out);have n2_:=aM (below_drew1 HB.out);clear e7 HK HB;have e7:=n0_;have HK:=n1_;have HB:=n2_;clear n0_ n1_ n2_;obtain⟨F7,F8,F9⟩:=Kd.R_slice e7.out;(first|subst F9|(injection F9 with f1_ f2_ f3_;have f4_:=f1_.symm;have f5_:=f3_.symm;clear f1_ f2_ f3_;subst f4_;subst f5_))
       obtain⟨G0,G1,G2,G3,G4⟩:=aI (Kd.R_reads' e7.out).2.2 a8;cases G1;obtain⟨G5,G6,G7,G8,G9⟩:=aI (Kd.R_reads' e7.out).2.2 (E8);obtain rfl:G0=G5:=(by injection G6);refine start_ (n:=12) (S:=fun w'=>w'.cell? (G0.add (a8).toNat)=some (.int .i64 (rd l0 a8))∧w'.cell? (G0.add ((E8)).toNat)=some (.int .i64 (rd l0 (E8)))) (ds:=[]) (bA 12 0) (by kernel_rfl) rfl rfl ⟨G2,G7⟩ (fun hHeld=>?_);refine with_tabW Azz.tab17 Azz.bits17 (fun HT_ HW_=>?_)
       generalize wr.drew=H1 at e7 HK HB G2 G7 hHeld ⊢;refine pS 0 92 HT_ ?_;refine pS 1 93 HT_ ?_;refine pS 2 94 HT_ ?_;refine pS 3 95 HT_ ?_;refine pS 5 97 HT_ ?_;refine pS 6 98 HT_ ?_;refine pS 7 99 HT_ ?_;refine tU 4 96 HT_ HW_ hHeld ?_;refine tU 8 100 HT_ HW_ hHeld ?_;refine oU 9 (some 101) HT_ fun K hK=>?_
       refine goesv_ Try.func55 (by kernel_rfl) rfl #[.int .i64 (rd l0 a8),.int .i64 (rd l0 (E8)),.pointer b3] (by rfl) rfl rfl (by(try simp only[List.map_toArray,List.map_cons,List.map_nil]);first|done|(simp only[E9];rfl)|rfl|(simp only[List.length_drop,List.length_take];rfl)) ?_
       with_reducible refine(Ezb.calls (rd l0 a8) (rd l0 (E8)) _ b4 b5 F0 _ ?side1 ?side2 F4.out).mono ?_
       (case side1=>exact Kd.C_kept_now d1.out (kK HK))
       (case side2=>exact d3.out)
       rintro e w' ⟨rfl,⟨nd,rfl⟩⟩;refine⟨_,rfl,?_⟩;refine hK.out _ _ ⟨hHeld.1,hHeld.2⟩ (fun hHeld=>?_)
       clear hK K;refine nm 101 ?_;refine pS 10 102 HT_ ?_;refine pS 11 103 HT_ ?_;refine done_ (done_of HT_.out (by kernel_rfl)) ?_
       try go_wp2
       go_roundg k1
       case measure=>have:=e6.out;omega
       case rel=>exact⟨(D9),(E8),sD,(by first|rfl|(simp;done)|(simp only[← E9] <;> (first|rfl|simp))|(simp [*];done)),H',⟨by have:=e6.out;omega⟩,⟨rX e7.out⟩,⟨kK HK⟩,⟨pB⟩⟩
      ·rw[if_neg F5] at H;have F6:decide (F0 < 0)=false:=decide_eq_false F5;clear F5;have H':=aM H;clear H;try go_wp2
       have n0_:=aM (Kd.R_drew e7.out);have n1_:=aM (Kept.drew HK.out);have n2_:=aM (below_drew1 HB.out);clear e7 HK HB;have e7:=n0_;have HK:=n1_;have HB:=n2_;clear n0_ n1_ n2_;obtain⟨H2,H3,H4⟩:=Kd.R_slice e7.out;(first|subst H4|(injection H4 with f1_ f2_ f3_;have f4_:=f1_.symm;have f5_:=f3_.symm;clear f1_ f2_ f3_;subst f4_;subst f5_))
       obtain⟨G0,G1,G2,G3,G4⟩:=aI (Kd.R_reads' e7.out).2.2 a8;cases G1;obtain⟨G5,G6,G7,G8,G9⟩:=aI (Kd.R_reads' e7.out).2.2 (E8);obtain rfl:G0=G5:=(by injection G6);refine start_ (n:=12) (S:=fun w'=>w'.cell? (G0.add (a8).toNat)=some (.int .i64 (rd l0 a8))∧w'.cell? (G0.add ((E8)).toNat)=some (.int .i64 (rd l0 (E8)))) (ds:=[]) (bA 12 0) (by kernel_rfl) rfl rfl ⟨G2,G7⟩ (fun hHeld=>?_);refine with_tabW Azz.tab17 Azz.bits17 (fun HT_ HW_=>?_)
       generalize wr.drew=H5 at e7 HK HB G2 G7 hHeld ⊢;refine pS 0 92 HT_ ?_;refine pS 1 93 HT_ ?_;refine pS 2 94 HT_ ?_;refine pS 3 95 HT_ ?_;refine pS 5 97 HT_ ?_;refine pS 6 98 HT_ ?_;refine pS 7 99 HT_ ?_;refine tU 4 96 HT_ HW_ hHeld ?_;refine tU 8 100 HT_ HW_ hHeld ?_;refine oU 9 (some 101) HT_ fun K hK=>?_
       refine goesv_ Try.func55 (by kernel_rfl) rfl #[.int .i64 (rd l0 a8),.int .i64 (rd l0 (E8)),.pointer b3] (by rfl) rfl rfl (by(try simp only[List.map_toArray,List.map_cons,List.map_nil]);first|done|(simp only[E9];rfl)|rfl|(simp only[List.length_drop,List.length_take];rfl)) ?_
       with_reducible refine(Ezb.calls (rd l0 a8) (rd l0 (E8)) _ b4 b5 F0 _ ?side1 ?side2 F4.out).mono ?_
       (case side1=>exact Kd.C_kept_now d1.out (kK HK))
       (case side2=>exact d3.out)
       rintro e w' ⟨rfl,⟨nd,rfl⟩⟩;refine⟨_,rfl,?_⟩;refine hK.out _ _ ⟨hHeld.1,hHeld.2⟩ (fun hHeld=>?_)
       clear hK K;refine nm 101 ?_;refine pS 10 102 HT_ ?_;refine pS 11 103 HT_ ?_;refine done_ (done_of HT_.out (by kernel_rfl)) ?_
       try go_wp2
       go_roundg k1
       case measure=>have:=e6.out;omega
       case rel=>exact⟨(wrap64 ((E8)+1)),(E3),(by first|rfl|(simp;done)|(simp only[← E9] <;> (first|rfl|simp))|(simp [*];done)),sD,H',⟨by have:=e6.out;omega⟩,⟨rX e7.out⟩,⟨kK HK⟩,⟨pB⟩⟩
     ·rw[if_neg E4] at H;have E5:decide (D9 < E3)=false:=decide_eq_false E4;clear E4;have H':=aM H;clear H;go_wp2
      go_loopg [17] k1 (fun kq H6 w'=>∃ (n6:List Int) (H7:Int),H6=.int .i64 H7∧Aside0 (Azz.l3 kq n6 D9 H7=some r)∧Aside0 (kq≤k1)∧Aside0 (Kd.R (Kd.int .i64) 3 w' b6.heap.size (fun k_=>(a6 k_∨w.heap.size≤k_)) u9000_ n6)∧Aside0 (Kept w w' (fun k_=>a6 k_))∧Aside0 (Below b6.heap.size b6 w'))
      case atStart=>exact⟨(l0),(a8),sD,H',⟨Nat.le_refl _⟩,⟨rX e7.out⟩,⟨kK HK⟩,⟨pB⟩⟩
      case round =>
       clear H';try clear n8
       obtain⟨n6,H7,rfl,HA,n9,e7,HK,HB⟩:=hrel;cases gk with
       | zero=>exact absurd HA.out (by simp [Azz.l3])
       | succ k2 =>
        have H:=HA.out;clear HA;simp only[Azz.l3] at H;by_cases H8:H7 > D9
        ·rw[if_pos H8] at H;have H9:decide (D9 < H7)=true:=dE H8;clear H8;obtain⟨I0,I1⟩:∃ j_:Int,(wrap64 (H7 - 1))=j_:=⟨_,rfl⟩;replace H:(if 0≤(I0) then(if(I0) < (n6.length:Int) then(if 0≤H7 then(if H7 < (n6.length:Int) then(Azz.l3 k2 ((n6.set (H7:Int).toNat (rd n6 (I0))).set ((I0):Int).toNat (rd n6 H7)) D9 I0) else(none)) else(none)) else(none)) else(none))=some r:=by first|(rw[I1] at H;exact H)|(simp only[I1] at H ⊢;exact H)
         have I2:(IntKind.i64.wrap (H7 - 1))=I0:=(i64_w _).trans I1;obtain⟨I3,H⟩:=iN H;obtain⟨I4,H⟩:=iN H;obtain⟨I5,H⟩:=iN H;obtain⟨I6,H⟩:=iN H;obtain⟨I7,I8⟩:∃ y_:List Int,y_=(n6.set (H7:Int).toNat (rd n6 (I0))):=⟨_,rfl⟩;replace H:(Azz.l3 k2 (I7.set ((I0):Int).toNat (rd n6 H7)) D9 I0)=some r:=yE I8 H
         have I9:=aM I8;clear I8;obtain⟨J0,J1⟩:∃ y_:List Int,y_=(I7.set ((I0):Int).toNat (rd n6 H7)):=⟨_,rfl⟩;replace H:(Azz.l3 k2 J0 D9 I0)=some r:=yE J1 H
         have J2:=aM J1;clear J1;have H':=aM H;clear H;try go_wp2
         have n0_:=aM (Kd.R_drew e7.out);have n1_:=aM (Kept.drew HK.out);have n2_:=aM (below_drew1 HB.out);clear e7 HK HB;have e7:=n0_;have HK:=n1_;have HB:=n2_;clear n0_ n1_ n2_;obtain⟨J3,J4,J5⟩:=Kd.R_slice e7.out;(first|subst J5|(injection J5 with f1_ f2_ f3_;have f4_:=f1_.symm;have f5_:=f3_.symm;clear f1_ f2_ f3_;subst f4_;subst f5_))
         obtain⟨J6,J7,J8,J9,K0⟩:=aI (Kd.R_reads' e7.out).2.2 (I0);cases J7;obtain⟨K1,K2,K3,K4,K5⟩:=aI (Kd.R_reads' e7.out).2.2 H7;obtain rfl:J6=K1:=(by injection K2);have K6:0≤(H7:Int):=oE aS
         have K7:(H7:Int) < ((n6.length:Int):Int):=oE aS
         obtain⟨K8,K9,L0,L3,L4,L5,L6⟩:=Kd.R_form e7.out (by omega)
         (first|cases L0|(injection L0 with ea_ en_ ec_;(first|subst ea_|(injection ea_ with ea_;subst ea_));subst ec_;clear en_))
         have L7:=aM L3;have L8:=aM L6;clear L3 L4 L6;have HMgo50:=aM (show(a6 K8∨w.heap.size≤K8) from(e7.out.1 _ rfl))
         (first|simp only[add_plain] at J8|skip)
         (first|simp only[add_plain] at K3|skip)
         obtain⟨L9,M0⟩:=Kd.R_celln 0 e7.out (H7:Int) K6 K7;replace K6:=eq_true K6;replace K7:=eq_true K7;have M1:=Kd.R_putn e7.out (H7:Int) (rd n6 (I0));rw[← I9.out] at M1;have M2:=aM M1;clear M1;obtain⟨M3,M4⟩:=Kd.R_celln 0 M2.out ((I0):Int) (oE aS) (oE aS);have M5:=eT ((I0));have M6:=eU ((I0)) n6.length;have M7:=Kd.R_putn M2.out ((I0):Int) (rd n6 H7);rw[← J2.out] at M7;have M8:=aM M7;clear M7;refine start_ (n:=18) (S:=fun w'=>w'.cell? ⟨K8,((I0)).toNat,none⟩=some (.int .i64 (rd n6 (I0)))∧w'.cell? ⟨K8,(H7).toNat,none⟩=some (.int .i64 (rd n6 H7))) (ds:=[15,17]) (bA 18 0) (by kernel_rfl) rfl rfl ⟨J8,K3⟩ (fun hHeld=>?_);refine with_tabW Azz.tab23 Azz.bits23 (fun HT_ HW_=>?_)
         generalize wr.drew=M9 at e7 HK HB L8 M2 M8 M0 M4 J8 K3 L9 M3 hHeld ⊢;refine pS 0 113 HT_ ?_;refine pS 1 114 HT_ ?_;refine pS 2 115 HT_ ?_;refine pS 3 116 HT_ ?_;refine pS 4 117 HT_ ?_;refine pS 5 118 HT_ ?_;refine pS 6 119 HT_ ?_;refine pS 7 120 HT_ ?_;refine pS 8 121 HT_ ?_;refine pS 10 123 HT_ ?_;refine pS 11 124 HT_ ?_;refine pS 12 125 HT_ ?_;refine tU 9 122 HT_ HW_ hHeld ?_;refine tU 13 126 HT_ HW_ hHeld ?_;refine pS 14 127 HT_ ?_;refine lU 15 none HT_ fun K hK=>?_
         refine skip_ (w1:=?_) (by rfl) rfl ?_ ?_
         rotate_left
         ·go_simp
          rfl
         refine hK.out _ _ ?_;clear hK K;refine pS 16 128 HT_ ?_;refine lU 17 none HT_ fun K hK=>?_
         refine skip_ (w1:=?_) (by rfl) rfl ?_ ?_
         rotate_left
         ·go_simp
          rfl
         refine hK.out _ _ ?_;clear hK K;refine done_ (done_of HT_.out (by kernel_rfl)) ?_
         try go_wp2
         go_roundg k2
         case measure=>have:=e6.out;have:=n9.out;omega
         case rel=>exact⟨(J0),(I0),(by first|rfl|(simp;done)|(simp only[← I1] <;> (first|rfl|simp))|(simp [*];done)),H',⟨by have:=e6.out;have:=n9.out;omega⟩,⟨rX M8.out⟩,⟨by repeat(first|(with_reducible first|exact HK.out|apply Kept.alloc|apply Kept.drewN|apply Kept.drew|refine Kept.setCell ?_ HMgo50.out _|refine Kept.setCell ?_ HMgo50.out _)|exact HK.out)⟩,⟨pB⟩⟩
        ·rw[if_neg H8] at H;have H9:decide (D9 < H7)=false:=decide_eq_false H8;clear H8;obtain rfl:=Option.some.inj H;go_wp2
         first|go_end0|((try simp only[Exit.inBlock,Exit.then]);refine bodyPost_ret (results_none rfl _ _ _) rfl ?_)
         exact⟨eW,rX e7.out,pB,kK HK⟩
  ·rw[if_neg D4] at H;obtain⟨D5,D6⟩:=bI D4;have N0:=aM H;clear H;go_enter Try.func89,Try.ntmps89
   go_upto_if 140 with (fail)
   go_cut [20,21] (fun N1 N2 wc=>∃ (kq:Nat) (N3:Int) (N4:Int),N1=.int .i64 N3∧N2=.int .i64 N4∧Aside0 (Azz.j4 kq l0 a7 a8 a9 (wrap64 ((IntKind.u64.wrap (wrap64 (a7+a9))) / 2)) (wrap64 ((wrap64 ((IntKind.u64.wrap (wrap64 (a7+a9))) / 2))+a8)) N3 N4 b5=some r)∧Aside0 (kq≤k)∧Aside0 (Kd.R (Kd.int .i64) 3 wc b6.heap.size (fun k_=>(a6 k_∨w.heap.size≤k_)) u9000_ l0)∧Aside0 (Kept w wc (fun k_=>a6 k_))∧Aside0 (Below b6.heap.size b6 wc))
   case first =>
    have H:=N0.out;clear N0;by_cases N5:a8 > (wrap64 ((IntKind.u64.wrap (wrap64 (a7+a9))) / 2))
    ·rw[if_pos N5] at H;have N6:decide ((wrap64 ((IntKind.u64.wrap (wrap64 (a7+a9))) / 2)) < a8)=true:=dE N5;have N7:decide ((IntKind.i64.wrap ((IntKind.u64.wrap (IntKind.i64.wrap (a7+a9))) / 2)) < a8)=true:=by have h_:=N6;first|exact h_|(simp only[i64_w];exact h_)
     clear N5;(first|rw[N6]|(simp only[i64_w,i32_w];rw[N6])|skip)
     have H':=aM H;clear H;go_wp2
     go_meet
     case rel=>exact⟨_,(wrap64 ((wrap64 ((wrap64 ((IntKind.u64.wrap (wrap64 (a7+a9))) / 2))+a8)) - a9)),(wrap64 ((IntKind.u64.wrap (wrap64 (a7+a9))) / 2)),sD,sD,H',⟨by first|omega|exact Nat.le_refl _⟩,⟨rX d0.out⟩,⟨kK HK⟩,⟨pB⟩⟩
    ·rw[if_neg N5] at H;have N6:decide ((wrap64 ((IntKind.u64.wrap (wrap64 (a7+a9))) / 2)) < a8)=false:=decide_eq_false N5;have N7:decide ((IntKind.i64.wrap ((IntKind.u64.wrap (IntKind.i64.wrap (a7+a9))) / 2)) < a8)=false:=by have h_:=N6;first|exact h_|(simp only[i64_w];exact h_)
     clear N5;(first|rw[N6]|(simp only[i64_w,i32_w];rw[N6])|skip)
     have H':=aM H;clear H;go_wp2
     go_meet
     case rel=>exact⟨_,(a7),(a8),sD,sD,H',⟨by first|omega|exact Nat.le_refl _⟩,⟨rX d0.out⟩,⟨kK HK⟩,⟨pB⟩⟩
   case rest=>as_aux_lemma =>
    clear N0;try clear n8
    obtain⟨kq,N3,N4,rfl,rfl,HA,N8,e7,HK,HB⟩:=hcut;cases kq with
    | zero=>exact absurd HA.out (by simp [Azz.j4])
    | succ N9 =>
     have H:=HA.out;clear HA;simp only[Azz.j4] at H;have H':=aM H;clear H;go_wp2
     go_loopg [20,21] N9 (fun kq N1 N2 w'=>∃ (O0:Int) (O1:Int),N1=.int .i64 O0∧N2=.int .i64 O1∧Aside0 (Azz.l4 kq l0 a7 a8 a9 (wrap64 ((IntKind.u64.wrap (wrap64 (a7+a9))) / 2)) (wrap64 ((wrap64 ((IntKind.u64.wrap (wrap64 (a7+a9))) / 2))+a8)) O0 O1 (wrap64 ((wrap64 ((wrap64 ((IntKind.u64.wrap (wrap64 (a7+a9))) / 2))+a8)) - 1)) b5=some r)∧Aside0 (kq≤N9)∧Aside0 (Kd.R (Kd.int .i64) 3 w' b6.heap.size (fun k_=>(a6 k_∨w.heap.size≤k_)) u9000_ l0)∧Aside0 (Kept w w' (fun k_=>a6 k_))∧Aside0 (Below b6.heap.size b6 w'))
     case atStart=>exact⟨(N3),(N4),sD,sD,H',⟨Nat.le_refl _⟩,⟨rX e7.out⟩,⟨kK HK⟩,⟨pB⟩⟩
     case round =>
      clear H';try clear n8
      obtain⟨O0,O1,rfl,rfl,HA,n9,e7,HK,HB⟩:=hrel;cases gk with
      | zero=>exact absurd HA.out (by simp [Azz.l4])
      | succ k2 =>
       have H:=HA.out;clear HA;simp only[Azz.l4] at H;by_cases O2:O0 < O1
       ·rw[if_pos O2] at H;have O3:=dE O2;clear O2;obtain⟨O4,O5⟩:∃ j_:Int,(wrap64 ((wrap64 ((wrap64 ((wrap64 ((IntKind.u64.wrap (wrap64 (a7+a9))) / 2))+a8)) - 1)) - (wrap64 ((IntKind.u64.wrap (wrap64 (O0+O1))) / 2))))=j_:=⟨_,rfl⟩;replace H:(if 0≤(O4) then(if(O4) < (l0.length:Int) then(if 0≤(wrap64 ((IntKind.u64.wrap (wrap64 (O0+O1))) / 2)) then(if(wrap64 ((IntKind.u64.wrap (wrap64 (O0+O1))) / 2)) < (l0.length:Int) then((Ezb.f (rd l0 (O4)) (rd l0 (wrap64 ((IntKind.u64.wrap (wrap64 (O0+O1))) / 2))) b5).bind fun O6=>(if O6 < 0 then(Azz.l4 k2 l0 a7 a8 a9 (wrap64 ((IntKind.u64.wrap (wrap64 (a7+a9))) / 2)) (wrap64 ((wrap64 ((IntKind.u64.wrap (wrap64 (a7+a9))) / 2))+a8)) O0 (wrap64 ((IntKind.u64.wrap (wrap64 (O0+O1))) / 2)) (wrap64 ((wrap64 ((wrap64 ((IntKind.u64.wrap (wrap64 (a7+a9))) / 2))+a8)) - 1)) b5) else(Azz.l4 k2 l0 a7 a8 a9 (wrap64 ((IntKind.u64.wrap (wrap64 (a7+a9))) / 2)) (wrap64 ((wrap64 ((IntKind.u64.wrap (wrap64 (a7+a9))) / 2))+a8)) (wrap64 ((wrap64 ((IntKind.u64.wrap (wrap64 (O0+O1))) / 2))+1)) O1 (wrap64 ((wrap64 ((wrap64 ((IntKind.u64.wrap (wrap64 (a7+a9))) / 2))+a8)) - 1)) b5))) else(none)) else(none)) else(none)) else(none))=some r:=by first|(rw[O5] at H;exact H)|(simp only[O5] at H ⊢;exact H)
        have O7:(IntKind.i64.wrap ((wrap64 ((wrap64 ((wrap64 ((IntKind.u64.wrap (wrap64 (a7+a9))) / 2))+a8)) - 1)) - (wrap64 ((IntKind.u64.wrap (wrap64 (O0+O1))) / 2))))=O4:=(i64_w _).trans O5;obtain⟨O8,H⟩:=iN H;obtain⟨O9,H⟩:=iN H;obtain⟨P2,P3⟩:∃ j_:Int,(wrap64 ((IntKind.u64.wrap (wrap64 (O0+O1))) / 2))=j_:=⟨_,rfl⟩;replace H:(if 0≤(P2) then(if(P2) < (l0.length:Int) then((Ezb.f (rd l0 (O4)) (rd l0 (P2)) b5).bind fun O6=>(if O6 < 0 then(Azz.l4 k2 l0 a7 a8 a9 (wrap64 ((IntKind.u64.wrap (wrap64 (a7+a9))) / 2)) (wrap64 ((wrap64 ((IntKind.u64.wrap (wrap64 (a7+a9))) / 2))+a8)) O0 P2 (wrap64 ((wrap64 ((wrap64 ((IntKind.u64.wrap (wrap64 (a7+a9))) / 2))+a8)) - 1)) b5) else(Azz.l4 k2 l0 a7 a8 a9 (wrap64 ((IntKind.u64.wrap (wrap64 (a7+a9))) / 2)) (wrap64 ((wrap64 ((IntKind.u64.wrap (wrap64 (a7+a9))) / 2))+a8)) (wrap64 ((P2)+1)) O1 (wrap64 ((wrap64 ((wrap64 ((IntKind.u64.wrap (wrap64 (a7+a9))) / 2))+a8)) - 1)) b5))) else(none)) else(none))=some r:=by first|(rw[P3] at H;exact H)|(simp only[P3] at H ⊢;exact H)
        have P4:(IntKind.i64.wrap ((IntKind.u64.wrap (wrap64 (O0+O1))) / 2))=P2:=(i64_w _).trans P3;(try rw[P3] at O5)
        (try rw[P3] at O7)
        obtain⟨P5,H⟩:=iN H;obtain⟨P6,H⟩:=iN H;obtain⟨O6,P7,H⟩:=bT H;(try dsimp only at H);by_cases P8:O6 < 0
        ·rw[if_pos P8] at H;have P9:=dE P8;clear P8;have H':=aM H;clear H;try go_wp2
         have n0_:=aM (Kd.R_drew e7.out);have n1_:=aM (Kept.drew HK.out);have n2_:=aM (below_drew1 HB.out);clear e7 HK HB;have e7:=n0_;have HK:=n1_;have HB:=n2_;clear n0_ n1_ n2_;obtain⟨Q2,Q3,Q4⟩:=Kd.R_slice e7.out;(first|subst Q4|(injection Q4 with f1_ f2_ f3_;have f4_:=f1_.symm;have f5_:=f3_.symm;clear f1_ f2_ f3_;subst f4_;subst f5_))
         obtain⟨Q5,Q6,Q7,Q8,Q9⟩:=aI (Kd.R_reads' e7.out).2.2 (O4);cases Q6;obtain⟨R0,R1,R2,R3,R4⟩:=aI (Kd.R_reads' e7.out).2.2 (P2);obtain rfl:Q5=R0:=(by injection R1);refine start_ (n:=14) (S:=fun w'=>w'.cell? (Q5.add ((O4)).toNat)=some (.int .i64 (rd l0 (O4)))∧w'.cell? (Q5.add ((P2)).toNat)=some (.int .i64 (rd l0 (P2)))) (ds:=[]) (bA 14 0) (by kernel_rfl) rfl rfl ⟨Q7,R2⟩ (fun hHeld=>?_);refine with_tabW Azz.tab35 Azz.bits35 (fun HT_ HW_=>?_)
         generalize wr.drew=R5 at e7 HK HB Q7 R2 hHeld ⊢;refine pS 0 158 HT_ ?_;refine pS 1 159 HT_ ?_;refine pS 2 160 HT_ ?_;refine pS 3 161 HT_ ?_;refine pS 4 162 HT_ ?_;refine pS 5 163 HT_ ?_;refine pS 7 165 HT_ ?_;refine pS 8 166 HT_ ?_;refine pS 9 167 HT_ ?_;refine tU 6 164 HT_ HW_ hHeld ?_;refine tU 10 168 HT_ HW_ hHeld ?_;refine oU 11 (some 169) HT_ fun K hK=>?_
         refine goesv_ Try.func55 (by kernel_rfl) rfl #[.int .i64 (rd l0 (O4)),.int .i64 (rd l0 (P2)),.pointer b3] (by rfl) rfl rfl (by(try simp only[List.map_toArray,List.map_cons,List.map_nil]);first|done|(simp only[O5,P3];rfl)|rfl|(simp only[List.length_drop,List.length_take];rfl)) ?_
         with_reducible refine(Ezb.calls (rd l0 (O4)) (rd l0 (P2)) _ b4 b5 O6 _ ?side1 ?side2 P7.out).mono ?_
         (case side1=>exact Kd.C_kept_now d1.out (kK HK))
         (case side2=>exact d3.out)
         rintro e w' ⟨rfl,⟨nd,rfl⟩⟩;refine⟨_,rfl,?_⟩;refine hK.out _ _ ⟨hHeld.1,hHeld.2⟩ (fun hHeld=>?_)
         clear hK K;refine nm 169 ?_;refine pS 12 170 HT_ ?_;refine pS 13 171 HT_ ?_;refine done_ (done_of HT_.out (by kernel_rfl)) ?_
         try go_wp2
         go_roundg k2
         case measure=>have:=N8.out;have:=n9.out;omega
         case rel=>exact⟨(O0),(P2),sD,(by first|rfl|(simp;done)|(simp only[← P3] <;> (first|rfl|simp))|(simp [*];done)),H',⟨by have:=N8.out;have:=n9.out;omega⟩,⟨rX e7.out⟩,⟨kK HK⟩,⟨pB⟩⟩
        ·rw[if_neg P8] at H;have P9:decide (O6 < 0)=false:=decide_eq_false P8;clear P8;have H':=aM H;clear H;try go_wp2
         have n0_:=aM (Kd.R_drew e7.out);have n1_:=aM (Kept.drew HK.out);have n2_:=aM (below_drew1 HB.out);clear e7 HK HB;have e7:=n0_;have HK:=n1_;have HB:=n2_;clear n0_ n1_ n2_;obtain⟨R6,R7,R8⟩:=Kd.R_slice e7.out;(first|subst R8|(injection R8 with f1_ f2_ f3_;have f4_:=f1_.symm;have f5_:=f3_.symm;clear f1_ f2_ f3_;subst f4_;subst f5_))
         obtain⟨Q5,Q6,Q7,Q8,Q9⟩:=aI (Kd.R_reads' e7.out).2.2 (O4);cases Q6;obtain⟨R0,R1,R2,R3,R4⟩:=aI (Kd.R_reads' e7.out).2.2 (P2);obtain rfl:Q5=R0:=(by injection R1);refine start_ (n:=14) (S:=fun w'=>w'.cell? (Q5.add ((O4)).toNat)=some (.int .i64 (rd l0 (O4)))∧w'.cell? (Q5.add ((P2)).toNat)=some (.int .i64 (rd l0 (P2)))) (ds:=[]) (bA 14 0) (by kernel_rfl) rfl rfl ⟨Q7,R2⟩ (fun hHeld=>?_);refine with_tabW Azz.tab35 Azz.bits35 (fun HT_ HW_=>?_)
         generalize wr.drew=R9 at e7 HK HB Q7 R2 hHeld ⊢;refine pS 0 158 HT_ ?_;refine pS 1 159 HT_ ?_;refine pS 2 160 HT_ ?_;refine pS 3 161 HT_ ?_;refine pS 4 162 HT_ ?_;refine pS 5 163 HT_ ?_;refine pS 7 165 HT_ ?_;refine pS 8 166 HT_ ?_;refine pS 9 167 HT_ ?_;refine tU 6 164 HT_ HW_ hHeld ?_;refine tU 10 168 HT_ HW_ hHeld ?_;refine oU 11 (some 169) HT_ fun K hK=>?_
         refine goesv_ Try.func55 (by kernel_rfl) rfl #[.int .i64 (rd l0 (O4)),.int .i64 (rd l0 (P2)),.pointer b3] (by rfl) rfl rfl (by(try simp only[List.map_toArray,List.map_cons,List.map_nil]);first|done|(simp only[O5,P3];rfl)|rfl|(simp only[List.length_drop,List.length_take];rfl)) ?_
         with_reducible refine(Ezb.calls (rd l0 (O4)) (rd l0 (P2)) _ b4 b5 O6 _ ?side1 ?side2 P7.out).mono ?_
         (case side1=>exact Kd.C_kept_now d1.out (kK HK))
         (case side2=>exact d3.out)
         rintro e w' ⟨rfl,⟨nd,rfl⟩⟩;refine⟨_,rfl,?_⟩;refine hK.out _ _ ⟨hHeld.1,hHeld.2⟩ (fun hHeld=>?_)
         clear hK K;refine nm 169 ?_;refine pS 12 170 HT_ ?_;refine pS 13 171 HT_ ?_;refine done_ (done_of HT_.out (by kernel_rfl)) ?_
         try go_wp2
         go_roundg k2
         case measure=>have:=N8.out;have:=n9.out;omega
         case rel=>exact⟨(wrap64 ((P2)+1)),(O1),(by first|rfl|(simp;done)|(simp only[← P3] <;> (first|rfl|simp))|(simp [*];done)),sD,H',⟨by have:=N8.out;have:=n9.out;omega⟩,⟨rX e7.out⟩,⟨kK HK⟩,⟨pB⟩⟩
       ·rw[if_neg O2] at H;have O3:decide (O0 < O1)=false:=decide_eq_false O2;clear O2;have U0:=aM H;clear H;go_upto_region 39 with (fail)
        go_cut [185] (fun U1 wc=>∃ (kq:Nat) (U2:Bool),U1=.bool U2∧Aside0 (Azz.j6 kq l0 a7 a8 a9 (wrap64 ((IntKind.u64.wrap (wrap64 (a7+a9))) / 2)) O0 (wrap64 ((wrap64 ((wrap64 ((IntKind.u64.wrap (wrap64 (a7+a9))) / 2))+a8)) - O0)) U2 b5=some r)∧Aside0 (kq≤k2)∧Aside0 (Kd.R (Kd.int .i64) 3 wc b6.heap.size (fun k_=>(a6 k_∨w.heap.size≤k_)) u9000_ l0)∧Aside0 (Kept w wc (fun k_=>a6 k_))∧Aside0 (Below b6.heap.size b6 wc))
        case first =>
         have H:=U0.out;clear U0;by_cases U3:O0 < a8
         ·rw[if_pos U3] at H;have U4:=dE U3;clear U3;(first|rw[U4]|(simp only[i64_w,i32_w];rw[U4])|skip)
          have H':=aM H;clear H;go_wp2
          go_meet
          case rel=>exact⟨_,(decide (a8 < (wrap64 ((wrap64 ((wrap64 ((IntKind.u64.wrap (wrap64 (a7+a9))) / 2))+a8)) - O0)))),sD,H',⟨by have:=N8.out;have:=n9.out;first|omega|exact Nat.le_refl _⟩,⟨rX e7.out⟩,⟨kK HK⟩,⟨pB⟩⟩
         ·rw[if_neg U3] at H;have U4:decide (O0 < a8)=false:=decide_eq_false U3;clear U3;(first|rw[U4]|(simp only[i64_w,i32_w];rw[U4])|skip)
          have H':=aM H;clear H;go_wp2
          go_meet
          case rel=>exact⟨_,(false),sD,H',⟨by have:=N8.out;have:=n9.out;first|omega|exact Nat.le_refl _⟩,⟨rX e7.out⟩,⟨kK HK⟩,⟨pB⟩⟩
        case rest=>as_aux_lemma =>
         clear U0;try clear n8
         obtain⟨kq,U2,rfl,HA,U5,e7,HK,HB⟩:=hcut;cases kq with
         | zero=>exact absurd HA.out (by simp [Azz.j6])
         | succ U6 =>
          have H:=HA.out;clear HA;simp only[Azz.j6] at H;have U7:=aM H;clear H;go_upto_if 185 with (fail)
          go_cut [] (fun wc=>∃ (kq:Nat) (U8:List Int),Aside0 (Azz.j7 kq U8 a7 a9 (wrap64 ((IntKind.u64.wrap (wrap64 (a7+a9))) / 2)) O0 (wrap64 ((wrap64 ((wrap64 ((IntKind.u64.wrap (wrap64 (a7+a9))) / 2))+a8)) - O0)) b5=some r)∧Aside0 (kq≤U6)∧Aside0 (Kd.R (Kd.int .i64) 3 wc b6.heap.size (fun k_=>(a6 k_∨w.heap.size≤k_)) u9000_ U8)∧Aside0 (Kept w wc (fun k_=>a6 k_))∧Aside0 (Below b6.heap.size b6 wc))
          case first =>
           have H:=U7.out;clear U7;by_cases U9:U2=true
           ·subst U9;rw[if_pos rfl] at H;obtain⟨V0,V1,H⟩:=bT H;(try dsimp only at H);have H':=aM H;clear H;obtain⟨V2,V3,rfl⟩:=Kd.R_slice e7.out;go_wp2_with (first|((with_reducible refine gc 97 rfl ?_);refine gC 97 (some 191) Try.func97 #[.slice V2 l0.length V3,.int .i64 O0,.int .i64 a8,.int .i64 (wrap64 ((wrap64 ((wrap64 ((IntKind.u64.wrap (wrap64 (a7+a9))) / 2))+a8)) - O0)),.func (.func 55) #[] #[.pointer b3]] ?_;(with_reducible refine(Azb.calls U6 (fun k_=>some k_=(.slice V2 l0.length V3:Value).ownBlock) (.slice V2 l0.length V3) l0 O0 a8 (wrap64 ((wrap64 ((wrap64 ((IntKind.u64.wrap (wrap64 (a7+a9))) / 2))+a8)) - O0)) _ b4 b5 V0 b6 _ ?side1 ?side2 ?side3 ?side4 V1.out).mono ?_);(case side1=>exact pB);(case side2=>exact Kd.R_tight rfl e7.out);(case side3=>exact Kd.C_kept_call d1.out (kK HK) (fun k_ hs_=>(fun e_=>(e7.out.1 k_ e_.symm)) hs_));(case side4=>exact d3.out);rintro e V4 ⟨rfl,V5,hb,hkp⟩;refine⟨_,rfl,?_⟩;replace HK:=aM (Kept.then_ (S:=(fun k_=>a6 k_)) (kK HK) hkp (fun k_ hs_=>(fun e_=>(e7.out.1 k_ e_.symm)) hs_));replace e7:=aM (Kd.R_reok rfl V5 (fun k_ e_=>e7.out.1 k_ e_));replace HB:=aM (hb);clear hb hkp V5))
            go_meet
            case rel=>exact⟨_,(V0),H',⟨by have:=N8.out;have:=n9.out;have:=U5.out;first|omega|exact Nat.le_refl _⟩,⟨rX e7.out⟩,⟨kK HK⟩,⟨pB⟩⟩
           ·obtain rfl:=bN U9;rw[if_neg nF] at H
            have H':=aM H;clear H;go_wp2
            go_meet
            case rel=>exact⟨_,(l0),H',⟨by have:=N8.out;have:=n9.out;have:=U5.out;first|omega|exact Nat.le_refl _⟩,⟨rX e7.out⟩,⟨kK HK⟩,⟨pB⟩⟩
          case rest=>as_aux_lemma =>
           clear U7;try clear n8
           obtain⟨kq,U8,HA,V6,e7,HK,HB⟩:=hcut;cases kq with
           | zero=>exact absurd HA.out (by simp [Azz.j7])
           | succ V7 =>
            have H:=HA.out;clear HA;simp only[Azz.j7] at H;have V8:=aM H;clear H;go_upto_region 41 with (fail)
            go_cut [199] (fun V9 wc=>∃ (kq:Nat) (W0:Bool),V9=.bool W0∧Aside0 (Azz.j8 kq U8 a7 a9 (wrap64 ((IntKind.u64.wrap (wrap64 (a7+a9))) / 2)) O0 (wrap64 ((wrap64 ((wrap64 ((IntKind.u64.wrap (wrap64 (a7+a9))) / 2))+a8)) - O0)) W0 b5=some r)∧Aside0 (kq≤V7)∧Aside0 (Kd.R (Kd.int .i64) 3 wc b6.heap.size (fun k_=>(a6 k_∨w.heap.size≤k_)) u9000_ U8)∧Aside0 (Kept w wc (fun k_=>a6 k_))∧Aside0 (Below b6.heap.size b6 wc))
            case first =>
             have H:=V8.out;clear V8;by_cases W3:a7 < O0
             ·rw[if_pos W3] at H;have W4:=dE W3;clear W3;(first|rw[W4]|(simp only[i64_w,i32_w];rw[W4])|skip)
              have H':=aM H;clear H;go_wp2
              go_meet
              case rel=>exact⟨_,(decide (O0 < (wrap64 ((IntKind.u64.wrap (wrap64 (a7+a9))) / 2)))),sD,H',⟨by have:=N8.out;have:=n9.out;have:=U5.out;have:=V6.out;first|omega|exact Nat.le_refl _⟩,⟨rX e7.out⟩,⟨kK HK⟩,⟨pB⟩⟩
             ·rw[if_neg W3] at H;have W4:decide (a7 < O0)=false:=decide_eq_false W3;clear W3;(first|rw[W4]|(simp only[i64_w,i32_w];rw[W4])|skip)
              have H':=aM H;clear H;go_wp2
              go_meet
              case rel=>exact⟨_,(false),sD,H',⟨by have:=N8.out;have:=n9.out;have:=U5.out;have:=V6.out;first|omega|exact Nat.le_refl _⟩,⟨rX e7.out⟩,⟨kK HK⟩,⟨pB⟩⟩
            case rest=>as_aux_lemma =>
             clear V8;try clear n8
             obtain⟨kq,W0,rfl,HA,W5,e7,HK,HB⟩:=hcut;cases kq with
             | zero=>exact absurd HA.out (by simp [Azz.j8])
             | succ W6 =>
              have H:=HA.out;clear HA;simp only[Azz.j8] at H;by_cases W7:W0=true
              ·subst W7;rw[if_pos rfl] at H;obtain⟨W8,W9,H⟩:=bT H;(try dsimp only at H);by_cases X0:(wrap64 ((IntKind.u64.wrap (wrap64 (a7+a9))) / 2)) < (wrap64 ((wrap64 ((wrap64 ((IntKind.u64.wrap (wrap64 (a7+a9))) / 2))+a8)) - O0))
               ·rw[if_pos X0] at H;have X1:decide ((wrap64 ((IntKind.u64.wrap (wrap64 (a7+a9))) / 2)) < (wrap64 ((wrap64 ((wrap64 ((IntKind.u64.wrap (wrap64 (a7+a9))) / 2))+a8)) - O0)))=true:=dE X0;have X2:decide ((IntKind.i64.wrap ((IntKind.u64.wrap (IntKind.i64.wrap (a7+a9))) / 2)) < (IntKind.i64.wrap ((IntKind.i64.wrap ((IntKind.i64.wrap ((IntKind.u64.wrap (IntKind.i64.wrap (a7+a9))) / 2))+a8)) - O0)))=true:=by have h_:=X1;first|exact h_|(simp only[i64_w];exact h_)
                clear X0;by_cases X3:(wrap64 ((wrap64 ((wrap64 ((IntKind.u64.wrap (wrap64 (a7+a9))) / 2))+a8)) - O0)) < a9
                ·rw[if_pos X3] at H;have X4:decide ((wrap64 ((wrap64 ((wrap64 ((IntKind.u64.wrap (wrap64 (a7+a9))) / 2))+a8)) - O0)) < a9)=true:=dE X3;have X5:decide ((IntKind.i64.wrap ((IntKind.i64.wrap ((IntKind.i64.wrap ((IntKind.u64.wrap (IntKind.i64.wrap (a7+a9))) / 2))+a8)) - O0)) < a9)=true:=by have h_:=X4;first|exact h_|(simp only[i64_w];exact h_)
                 clear X3;replace H:=bS H;obtain⟨X6,X7,H⟩:=H;replace H:(some X6)=some r:=H;have X8:=aM X7;clear X7;obtain rfl:=Option.some.inj H;obtain⟨X9,Y0,rfl⟩:=Kd.R_slice e7.out;go_wp2_with (first|((with_reducible refine gc 89 rfl ?_);refine gC 89 (some 205) Try.func89 #[.slice X9 U8.length Y0,.int .i64 a7,.int .i64 O0,.int .i64 (wrap64 ((IntKind.u64.wrap (wrap64 (a7+a9))) / 2)),.func (.func 55) #[] #[.pointer b3]] ?_;(with_reducible refine(ih W6 (by have:=N8.out;have:=n9.out;have:=U5.out;have:=V6.out;have:=W5.out;omega) (fun k_=>some k_=(.slice X9 U8.length Y0:Value).ownBlock) (.slice X9 U8.length Y0) U8 a7 O0 (wrap64 ((IntKind.u64.wrap (wrap64 (a7+a9))) / 2)) _ b4 b5 W8 b6 _ ?side1 ?side2 ?side3 ?side4 W9.out).mono ?_);(case side1=>exact pB);(case side2=>exact Kd.R_tight rfl e7.out);(case side3=>exact Kd.C_kept_call d1.out (kK HK) (fun k_ hs_=>(fun e_=>(e7.out.1 k_ e_.symm)) hs_));(case side4=>exact d3.out);rintro e Y1 ⟨rfl,V5,hb,hkp⟩;refine⟨_,rfl,?_⟩;replace HK:=aM (Kept.then_ (S:=(fun k_=>a6 k_)) (kK HK) hkp (fun k_ hs_=>(fun e_=>(e7.out.1 k_ e_.symm)) hs_));replace e7:=aM (Kd.R_reok rfl V5 (fun k_ e_=>e7.out.1 k_ e_));replace HB:=aM (hb);clear hb hkp V5)|((with_reducible refine gc 89 rfl ?_);refine gC 89 (some 219) Try.func89 #[.slice X9 U8.length Y0,.int .i64 (wrap64 ((IntKind.u64.wrap (wrap64 (a7+a9))) / 2)),.int .i64 (wrap64 ((wrap64 ((wrap64 ((IntKind.u64.wrap (wrap64 (a7+a9))) / 2))+a8)) - O0)),.int .i64 a9,.func (.func 55) #[] #[.pointer b3]] ?_;(with_reducible refine(ih W6 (by have:=N8.out;have:=n9.out;have:=U5.out;have:=V6.out;have:=W5.out;omega) (fun k_=>some k_=(.slice X9 U8.length Y0:Value).ownBlock) (.slice X9 U8.length Y0) W8 (wrap64 ((IntKind.u64.wrap (wrap64 (a7+a9))) / 2)) (wrap64 ((wrap64 ((wrap64 ((IntKind.u64.wrap (wrap64 (a7+a9))) / 2))+a8)) - O0)) a9 _ b4 b5 X6 b6 _ ?side1 ?side2 ?side3 ?side4 X8.out).mono ?_);(case side1=>exact pB);(case side2=>exact Kd.R_tight rfl e7.out);(case side3=>exact Kd.C_kept_call d1.out (kK HK) (fun k_ hs_=>(fun e_=>(e7.out.1 k_ e_.symm)) hs_));(case side4=>exact d3.out);rintro e Y2 ⟨rfl,V5,hb,hkp⟩;refine⟨_,rfl,?_⟩;replace HK:=aM (Kept.then_ (S:=(fun k_=>a6 k_)) (kK HK) hkp (fun k_ hs_=>(fun e_=>(e7.out.1 k_ e_.symm)) hs_));replace e7:=aM (Kd.R_reok rfl V5 (fun k_ e_=>e7.out.1 k_ e_));replace HB:=aM (hb);clear hb hkp V5))
                 first|go_end0|((try simp only[Exit.inBlock,Exit.then]);refine bodyPost_ret (results_none rfl _ _ _) rfl ?_)
                 exact⟨eW,rX e7.out,pB,kK HK⟩
                ·rw[if_neg X3] at H;have X4:decide ((wrap64 ((wrap64 ((wrap64 ((IntKind.u64.wrap (wrap64 (a7+a9))) / 2))+a8)) - O0)) < a9)=false:=decide_eq_false X3;have X5:decide ((IntKind.i64.wrap ((IntKind.i64.wrap ((IntKind.i64.wrap ((IntKind.u64.wrap (IntKind.i64.wrap (a7+a9))) / 2))+a8)) - O0)) < a9)=false:=by have h_:=X4;first|exact h_|(simp only[i64_w];exact h_)
                 clear X3;obtain rfl:=Option.some.inj H;obtain⟨Y3,Y4,rfl⟩:=Kd.R_slice e7.out;go_wp2_with (first|((with_reducible refine gc 89 rfl ?_);refine gC 89 (some 205) Try.func89 #[.slice Y3 U8.length Y4,.int .i64 a7,.int .i64 O0,.int .i64 (wrap64 ((IntKind.u64.wrap (wrap64 (a7+a9))) / 2)),.func (.func 55) #[] #[.pointer b3]] ?_;(with_reducible refine(ih W6 (by have:=N8.out;have:=n9.out;have:=U5.out;have:=V6.out;have:=W5.out;omega) (fun k_=>some k_=(.slice Y3 U8.length Y4:Value).ownBlock) (.slice Y3 U8.length Y4) U8 a7 O0 (wrap64 ((IntKind.u64.wrap (wrap64 (a7+a9))) / 2)) _ b4 b5 W8 b6 _ ?side1 ?side2 ?side3 ?side4 W9.out).mono ?_);(case side1=>exact pB);(case side2=>exact Kd.R_tight rfl e7.out);(case side3=>exact Kd.C_kept_call d1.out (kK HK) (fun k_ hs_=>(fun e_=>(e7.out.1 k_ e_.symm)) hs_));(case side4=>exact d3.out);rintro e Y5 ⟨rfl,V5,hb,hkp⟩;refine⟨_,rfl,?_⟩;replace HK:=aM (Kept.then_ (S:=(fun k_=>a6 k_)) (kK HK) hkp (fun k_ hs_=>(fun e_=>(e7.out.1 k_ e_.symm)) hs_));replace e7:=aM (Kd.R_reok rfl V5 (fun k_ e_=>e7.out.1 k_ e_));replace HB:=aM (hb);clear hb hkp V5))
                 first|go_end0|((try simp only[Exit.inBlock,Exit.then]);refine bodyPost_ret (results_none rfl _ _ _) rfl ?_)
                 exact⟨eW,rX e7.out,pB,kK HK⟩
               ·rw[if_neg X0] at H;have X1:decide ((wrap64 ((IntKind.u64.wrap (wrap64 (a7+a9))) / 2)) < (wrap64 ((wrap64 ((wrap64 ((IntKind.u64.wrap (wrap64 (a7+a9))) / 2))+a8)) - O0)))=false:=decide_eq_false X0;have X2:decide ((IntKind.i64.wrap ((IntKind.u64.wrap (IntKind.i64.wrap (a7+a9))) / 2)) < (IntKind.i64.wrap ((IntKind.i64.wrap ((IntKind.i64.wrap ((IntKind.u64.wrap (IntKind.i64.wrap (a7+a9))) / 2))+a8)) - O0)))=false:=by have h_:=X1;first|exact h_|(simp only[i64_w];exact h_)
                clear X0;obtain rfl:=Option.some.inj H;obtain⟨Y6,Y7,rfl⟩:=Kd.R_slice e7.out;go_wp2_with (first|((with_reducible refine gc 89 rfl ?_);refine gC 89 (some 205) Try.func89 #[.slice Y6 U8.length Y7,.int .i64 a7,.int .i64 O0,.int .i64 (wrap64 ((IntKind.u64.wrap (wrap64 (a7+a9))) / 2)),.func (.func 55) #[] #[.pointer b3]] ?_;(with_reducible refine(ih W6 (by have:=N8.out;have:=n9.out;have:=U5.out;have:=V6.out;have:=W5.out;omega) (fun k_=>some k_=(.slice Y6 U8.length Y7:Value).ownBlock) (.slice Y6 U8.length Y7) U8 a7 O0 (wrap64 ((IntKind.u64.wrap (wrap64 (a7+a9))) / 2)) _ b4 b5 W8 b6 _ ?side1 ?side2 ?side3 ?side4 W9.out).mono ?_);(case side1=>exact pB);(case side2=>exact Kd.R_tight rfl e7.out);(case side3=>exact Kd.C_kept_call d1.out (kK HK) (fun k_ hs_=>(fun e_=>(e7.out.1 k_ e_.symm)) hs_));(case side4=>exact d3.out);rintro e Y8 ⟨rfl,V5,hb,hkp⟩;refine⟨_,rfl,?_⟩;replace HK:=aM (Kept.then_ (S:=(fun k_=>a6 k_)) (kK HK) hkp (fun k_ hs_=>(fun e_=>(e7.out.1 k_ e_.symm)) hs_));replace e7:=aM (Kd.R_reok rfl V5 (fun k_ e_=>e7.out.1 k_ e_));replace HB:=aM (hb);clear hb hkp V5))
                first|go_end0|((try simp only[Exit.inBlock,Exit.then]);refine bodyPost_ret (results_none rfl _ _ _) rfl ?_)
                exact⟨eW,rX e7.out,pB,kK HK⟩
              ·obtain rfl:=bN W7;rw[if_neg nF] at H
               by_cases Y9:(wrap64 ((IntKind.u64.wrap (wrap64 (a7+a9))) / 2)) < (wrap64 ((wrap64 ((wrap64 ((IntKind.u64.wrap (wrap64 (a7+a9))) / 2))+a8)) - O0))
               ·rw[if_pos Y9] at H;have Z0:decide ((wrap64 ((IntKind.u64.wrap (wrap64 (a7+a9))) / 2)) < (wrap64 ((wrap64 ((wrap64 ((IntKind.u64.wrap (wrap64 (a7+a9))) / 2))+a8)) - O0)))=true:=dE Y9;have Z3:decide ((IntKind.i64.wrap ((IntKind.u64.wrap (IntKind.i64.wrap (a7+a9))) / 2)) < (IntKind.i64.wrap ((IntKind.i64.wrap ((IntKind.i64.wrap ((IntKind.u64.wrap (IntKind.i64.wrap (a7+a9))) / 2))+a8)) - O0)))=true:=by have h_:=Z0;first|exact h_|(simp only[i64_w];exact h_)
                clear Y9;by_cases Z4:(wrap64 ((wrap64 ((wrap64 ((IntKind.u64.wrap (wrap64 (a7+a9))) / 2))+a8)) - O0)) < a9
                ·rw[if_pos Z4] at H;have Z5:decide ((wrap64 ((wrap64 ((wrap64 ((IntKind.u64.wrap (wrap64 (a7+a9))) / 2))+a8)) - O0)) < a9)=true:=dE Z4;have Z6:decide ((IntKind.i64.wrap ((IntKind.i64.wrap ((IntKind.i64.wrap ((IntKind.u64.wrap (IntKind.i64.wrap (a7+a9))) / 2))+a8)) - O0)) < a9)=true:=by have h_:=Z5;first|exact h_|(simp only[i64_w];exact h_)
                 clear Z4;replace H:=bS H;obtain⟨Z7,Z8,H⟩:=H;replace H:(some Z7)=some r:=H;have Z9:=aM Z8;clear Z8;obtain rfl:=Option.some.inj H;obtain⟨Aa,Ab,rfl⟩:=Kd.R_slice e7.out;go_wp2_with (first|((with_reducible refine gc 89 rfl ?_);refine gC 89 (some 219) Try.func89 #[.slice Aa U8.length Ab,.int .i64 (wrap64 ((IntKind.u64.wrap (wrap64 (a7+a9))) / 2)),.int .i64 (wrap64 ((wrap64 ((wrap64 ((IntKind.u64.wrap (wrap64 (a7+a9))) / 2))+a8)) - O0)),.int .i64 a9,.func (.func 55) #[] #[.pointer b3]] ?_;(with_reducible refine(ih W6 (by have:=N8.out;have:=n9.out;have:=U5.out;have:=V6.out;have:=W5.out;omega) (fun k_=>some k_=(.slice Aa U8.length Ab:Value).ownBlock) (.slice Aa U8.length Ab) U8 (wrap64 ((IntKind.u64.wrap (wrap64 (a7+a9))) / 2)) (wrap64 ((wrap64 ((wrap64 ((IntKind.u64.wrap (wrap64 (a7+a9))) / 2))+a8)) - O0)) a9 _ b4 b5 Z7 b6 _ ?side1 ?side2 ?side3 ?side4 Z9.out).mono ?_);(case side1=>exact pB);(case side2=>exact Kd.R_tight rfl e7.out);(case side3=>exact Kd.C_kept_call d1.out (kK HK) (fun k_ hs_=>(fun e_=>(e7.out.1 k_ e_.symm)) hs_));(case side4=>exact d3.out);rintro e Ac ⟨rfl,V5,hb,hkp⟩;refine⟨_,rfl,?_⟩;replace HK:=aM (Kept.then_ (S:=(fun k_=>a6 k_)) (kK HK) hkp (fun k_ hs_=>(fun e_=>(e7.out.1 k_ e_.symm)) hs_));replace e7:=aM (Kd.R_reok rfl V5 (fun k_ e_=>e7.out.1 k_ e_));replace HB:=aM (hb);clear hb hkp V5))
                 first|go_end0|((try simp only[Exit.inBlock,Exit.then]);refine bodyPost_ret (results_none rfl _ _ _) rfl ?_)
                 exact⟨eW,rX e7.out,pB,kK HK⟩
                ·rw[if_neg Z4] at H;have Z5:decide ((wrap64 ((wrap64 ((wrap64 ((IntKind.u64.wrap (wrap64 (a7+a9))) / 2))+a8)) - O0)) < a9)=false:=decide_eq_false Z4;have Z6:decide ((IntKind.i64.wrap ((IntKind.i64.wrap ((IntKind.i64.wrap ((IntKind.u64.wrap (IntKind.i64.wrap (a7+a9))) / 2))+a8)) - O0)) < a9)=false:=by have h_:=Z5;first|exact h_|(simp only[i64_w];exact h_)
                 clear Z4;obtain rfl:=Option.some.inj H;go_wp2
                 first|go_end0|((try simp only[Exit.inBlock,Exit.then]);refine bodyPost_ret (results_none rfl _ _ _) rfl ?_)
                 exact⟨eW,rX e7.out,pB,kK HK⟩
               ·rw[if_neg Y9] at H;have Z0:decide ((wrap64 ((IntKind.u64.wrap (wrap64 (a7+a9))) / 2)) < (wrap64 ((wrap64 ((wrap64 ((IntKind.u64.wrap (wrap64 (a7+a9))) / 2))+a8)) - O0)))=false:=decide_eq_false Y9;have Z3:decide ((IntKind.i64.wrap ((IntKind.u64.wrap (IntKind.i64.wrap (a7+a9))) / 2)) < (IntKind.i64.wrap ((IntKind.i64.wrap ((IntKind.i64.wrap ((IntKind.u64.wrap (IntKind.i64.wrap (a7+a9))) / 2))+a8)) - O0)))=false:=by have h_:=Z0;first|exact h_|(simp only[i64_w];exact h_)
                clear Y9;obtain rfl:=Option.some.inj H;go_wp2
                first|go_end0|((try simp only[Exit.inBlock,Exit.then]);refine bodyPost_ret (results_none rfl _ _ _) rfl ?_)
                exact⟨eW,rX e7.out,pB,kK HK⟩

end Go.Proofs.Ytnklckihalhlmaa.Print
