import Derived.Test.YtloihkecfommbaaPrint0
import Derived.Test.YtloihkecfommbaaPrint5
import Derived.Test.YtloihkecfommbaaPrint7
namespace Go.Proofs.Ytloihkecfommbaa.Print
open Go.RowKit Go.Proofs.YtloihkecfommbaaW.PrintWords Go.Proofs.YtloihkecfommbaaW.PrintLast Go.Proofs.YtloihkecfommbaaW.PrintMore
attribute [local go_sem] max2_int min2_int max_two min_two max_three min_three max_four min_four
set_option linter.unusedVariables false
set_option maxRecDepth 100000
set_option linter.unusedSimpArgs false

mutual
def Azz.l0:Nat→List Int→Int→Int→Int→List (List Int)→Option (List Int)
 | 0,_,_,_,_,_=>none
 | k+1,x0,x1,x10,x11,x940=>if x10 < x11 then(if 0≤(wrap64 ((IntKind.u64.wrap (wrap64 (x10+x11))) / 2)) then(if(wrap64 ((IntKind.u64.wrap (wrap64 (x10+x11))) / 2)) < (x0.length:Int) then(if 0≤x1 then(if x1 < (x0.length:Int) then((Czj.f (rd x0 (wrap64 ((IntKind.u64.wrap (wrap64 (x10+x11))) / 2))) (rd x0 x1) x940).bind fun t176=>(if t176 < 0 then(Azz.l0 k x0 x1 (wrap64 ((wrap64 ((IntKind.u64.wrap (wrap64 (x10+x11))) / 2))+1)) x11 x940) else(Azz.l0 k x0 x1 x10 (wrap64 ((IntKind.u64.wrap (wrap64 (x10+x11))) / 2)) x940))) else(none)) else(none)) else(none)) else(none)) else(Azz.l1 k x0 x10 x1)
def Azz.l1:Nat→List Int→Int→Int→Option (List Int)
 | 0,_,_,_=>none
 | k+1,x0,x10,x13=>if x13 < (wrap64 (x10 - 1)) then(if 0≤(wrap64 (x13+1)) then(if(wrap64 (x13+1)) < (x0.length:Int) then(if 0≤x13 then(if x13 < (x0.length:Int) then(Azz.l1 k ((x0.set (x13:Int).toNat (rd x0 (wrap64 (x13+1)))).set ((wrap64 (x13+1)):Int).toNat (rd x0 x13)) x10 (wrap64 (x13+1))) else(none)) else(none)) else(none)) else(none)) else(some x0)
def Azz.l2:Nat→List Int→Int→Int→Int→List (List Int)→Option (List Int)
 | 0,_,_,_,_,_=>none
 | k+1,x0,x2,x14,x15,x940=>if x14 < x15 then(if 0≤x2 then(if x2 < (x0.length:Int) then(if 0≤(wrap64 ((IntKind.u64.wrap (wrap64 (x14+x15))) / 2)) then(if(wrap64 ((IntKind.u64.wrap (wrap64 (x14+x15))) / 2)) < (x0.length:Int) then((Czj.f (rd x0 x2) (rd x0 (wrap64 ((IntKind.u64.wrap (wrap64 (x14+x15))) / 2))) x940).bind fun t183=>(if t183 < 0 then(Azz.l2 k x0 x2 x14 (wrap64 ((IntKind.u64.wrap (wrap64 (x14+x15))) / 2)) x940) else(Azz.l2 k x0 x2 (wrap64 ((wrap64 ((IntKind.u64.wrap (wrap64 (x14+x15))) / 2))+1)) x15 x940))) else(none)) else(none)) else(none)) else(none)) else(Azz.l3 k x0 x14 x2)
def Azz.l3:Nat→List Int→Int→Int→Option (List Int)
 | 0,_,_,_=>none
 | k+1,x0,x14,x17=>if x17 > x14 then(if 0≤(wrap64 (x17 - 1)) then(if(wrap64 (x17 - 1)) < (x0.length:Int) then(if 0≤x17 then(if x17 < (x0.length:Int) then(Azz.l3 k ((x0.set (x17:Int).toNat (rd x0 (wrap64 (x17 - 1)))).set ((wrap64 (x17 - 1)):Int).toNat (rd x0 x17)) x14 (wrap64 (x17 - 1))) else(none)) else(none)) else(none)) else(none)) else(some x0)
def Azz.j4:Nat→List Int→Int→Int→Int→Int→Int→Int→Int→List (List Int)→Option (List Int)
 | 0,_,_,_,_,_,_,_,_,_=>none
 | k+1,x0,x1,x2,x3,x18,x19,x20,x21,x940=>Azz.l4 k x0 x1 x2 x3 x18 x19 x20 x21 (wrap64 (x19 - 1)) x940
def Azz.l4:Nat→List Int→Int→Int→Int→Int→Int→Int→Int→Int→List (List Int)→Option (List Int)
 | 0,_,_,_,_,_,_,_,_,_,_=>none
 | k+1,x0,x1,x2,x3,x18,x19,x20,x21,x22,x940=>if x20 < x21 then(if 0≤(wrap64 (x22 - (wrap64 ((IntKind.u64.wrap (wrap64 (x20+x21))) / 2)))) then(if(wrap64 (x22 - (wrap64 ((IntKind.u64.wrap (wrap64 (x20+x21))) / 2)))) < (x0.length:Int) then(if 0≤(wrap64 ((IntKind.u64.wrap (wrap64 (x20+x21))) / 2)) then(if(wrap64 ((IntKind.u64.wrap (wrap64 (x20+x21))) / 2)) < (x0.length:Int) then((Czj.f (rd x0 (wrap64 (x22 - (wrap64 ((IntKind.u64.wrap (wrap64 (x20+x21))) / 2))))) (rd x0 (wrap64 ((IntKind.u64.wrap (wrap64 (x20+x21))) / 2))) x940).bind fun t190=>(if t190 < 0 then(Azz.l4 k x0 x1 x2 x3 x18 x19 x20 (wrap64 ((IntKind.u64.wrap (wrap64 (x20+x21))) / 2)) x22 x940) else(Azz.l4 k x0 x1 x2 x3 x18 x19 (wrap64 ((wrap64 ((IntKind.u64.wrap (wrap64 (x20+x21))) / 2))+1)) x21 x22 x940))) else(none)) else(none)) else(none)) else(none)) else(if x20 < x2 then(Azz.j6 k x0 x1 x2 x3 x18 x20 (wrap64 (x19 - x20)) (decide (x2 < (wrap64 (x19 - x20)))) x940) else(Azz.j6 k x0 x1 x2 x3 x18 x20 (wrap64 (x19 - x20)) false x940))
def Azz.j6:Nat→List Int→Int→Int→Int→Int→Int→Int→Bool→List (List Int)→Option (List Int)
 | 0,_,_,_,_,_,_,_,_,_=>none
 | k+1,x0,x1,x2,x3,x18,x20,x24,x185,x940=>if x185=true then((Azk.f k x0 x20 x2 x24 x940).bind fun t191=>(Azz.j7 k t191 x1 x3 x18 x20 x24 x940)) else(Azz.j7 k x0 x1 x3 x18 x20 x24 x940)
def Azz.j7:Nat→List Int→Int→Int→Int→Int→Int→List (List Int)→Option (List Int)
 | 0,_,_,_,_,_,_,_=>none
 | k+1,x0,x1,x3,x18,x20,x24,x940=>if x1 < x20 then(Azz.j8 k x0 x1 x3 x18 x20 x24 (decide (x20 < x18)) x940) else(Azz.j8 k x0 x1 x3 x18 x20 x24 false x940)
def Azz.j8:Nat→List Int→Int→Int→Int→Int→Int→Bool→List (List Int)→Option (List Int)
 | 0,_,_,_,_,_,_,_,_=>none
 | k+1,x0,x1,x3,x18,x20,x24,x199,x940=>if x199=true then((Azz.f k x0 x1 x20 x18 x940).bind fun t192=>(if x18 < x24 then(if x24 < x3 then((Azz.f k t192 x18 x24 x3 x940).bind fun t193=>(some t193)) else(some t192)) else(some t192))) else(if x18 < x24 then(if x24 < x3 then((Azz.f k x0 x18 x24 x3 x940).bind fun t194=>(some t194)) else(some x0)) else(some x0))
def Azz.f:Nat→List Int→Int→Int→Int→List (List Int)→Option (List Int)
 | 0,_,_,_,_,_=>none
 | k+1,l0,a1,a2,a3,l4_0=>if(wrap64 (a2 - a1))=1 then(Azz.l0 k l0 a1 a2 a3 l4_0) else(if(wrap64 (a3 - a2))=1 then(Azz.l2 k l0 a2 a1 a2 l4_0) else(if a2 > (wrap64 ((IntKind.u64.wrap (wrap64 (a1+a3))) / 2)) then(Azz.j4 k l0 a1 a2 a3 (wrap64 ((IntKind.u64.wrap (wrap64 (a1+a3))) / 2)) (wrap64 ((wrap64 ((IntKind.u64.wrap (wrap64 (a1+a3))) / 2))+a2)) (wrap64 ((wrap64 ((wrap64 ((IntKind.u64.wrap (wrap64 (a1+a3))) / 2))+a2)) - a3)) (wrap64 ((IntKind.u64.wrap (wrap64 (a1+a3))) / 2)) l4_0) else(Azz.j4 k l0 a1 a2 a3 (wrap64 ((IntKind.u64.wrap (wrap64 (a1+a3))) / 2)) (wrap64 ((wrap64 ((IntKind.u64.wrap (wrap64 (a1+a3))) / 2))+a2)) a1 a2 l4_0)))
end
theorem Azz.mono_l:∀ k,(∀ y0 y1 y2 y3 y4,LeO (Azz.f k y0 y1 y2 y3 y4) (Azz.f (k+1) y0 y1 y2 y3 y4))∧(∀ y0 y1 y2 y3 y4,LeO (Azz.l0 k y0 y1 y2 y3 y4) (Azz.l0 (k+1) y0 y1 y2 y3 y4))∧(∀ y0 y1 y2,LeO (Azz.l1 k y0 y1 y2) (Azz.l1 (k+1) y0 y1 y2))∧(∀ y0 y1 y2 y3 y4,LeO (Azz.l2 k y0 y1 y2 y3 y4) (Azz.l2 (k+1) y0 y1 y2 y3 y4))∧(∀ y0 y1 y2,LeO (Azz.l3 k y0 y1 y2) (Azz.l3 (k+1) y0 y1 y2))∧(∀ y0 y1 y2 y3 y4 y5 y6 y7 y8,LeO (Azz.j4 k y0 y1 y2 y3 y4 y5 y6 y7 y8) (Azz.j4 (k+1) y0 y1 y2 y3 y4 y5 y6 y7 y8))∧(∀ y0 y1 y2 y3 y4 y5 y6 y7 y8 y9,LeO (Azz.l4 k y0 y1 y2 y3 y4 y5 y6 y7 y8 y9) (Azz.l4 (k+1) y0 y1 y2 y3 y4 y5 y6 y7 y8 y9))∧(∀ y0 y1 y2 y3 y4 y5 y6 y7 y8,LeO (Azz.j6 k y0 y1 y2 y3 y4 y5 y6 y7 y8) (Azz.j6 (k+1) y0 y1 y2 y3 y4 y5 y6 y7 y8))∧(∀ y0 y1 y2 y3 y4 y5 y6,LeO (Azz.j7 k y0 y1 y2 y3 y4 y5 y6) (Azz.j7 (k+1) y0 y1 y2 y3 y4 y5 y6))∧(∀ y0 y1 y2 y3 y4 y5 y6 y7,LeO (Azz.j8 k y0 y1 y2 y3 y4 y5 y6 y7) (Azz.j8 (k+1) y0 y1 y2 y3 y4 y5 y6 y7))
 | 0=>⟨fun _ _ _ _ _ r h=>by simp [Azz.f] at h,fun _ _ _ _ _ r h=>by simp [Azz.l0] at h,fun _ _ _ r h=>by simp [Azz.l1] at h,fun _ _ _ _ _ r h=>by simp [Azz.l2] at h,fun _ _ _ r h=>by simp [Azz.l3] at h,fun _ _ _ _ _ _ _ _ _ r h=>by simp [Azz.j4] at h,fun _ _ _ _ _ _ _ _ _ _ r h=>by simp [Azz.l4] at h,fun _ _ _ _ _ _ _ _ _ r h=>by simp [Azz.j6] at h,fun _ _ _ _ _ _ _ r h=>by simp [Azz.j7] at h,fun _ _ _ _ _ _ _ _ r h=>by simp [Azz.j8] at h⟩
 | k+1=>by
  obtain⟨ih0,ih1,ih2,ih3,ih4,ih5,ih6,ih7,ih8,ih9⟩:=Azz.mono_l k;refine⟨?_,?_,?_,?_,?_,?_,?_,?_,?_,?_⟩
  ·intro y0 y1 y2 y3 y4;unfold Azz.f;with_reducible repeat' first|exact ih0 _ _ _ _ _|exact ih1 _ _ _ _ _|exact ih2 _ _ _|exact ih3 _ _ _ _ _|exact ih4 _ _ _|exact ih5 _ _ _ _ _ _ _ _ _|exact ih6 _ _ _ _ _ _ _ _ _ _|exact ih7 _ _ _ _ _ _ _ _ _|exact ih8 _ _ _ _ _ _ _|exact ih9 _ _ _ _ _ _ _ _|exact Azk.mono _ _ _ _ _ _|exact LeO.refl _|exact LeO.none _|refine LeO.ite ?_ ?_|refine LeO.bind ?_ (fun _=>?_)
  ·intro y0 y1 y2 y3 y4;unfold Azz.l0;with_reducible repeat' first|exact ih0 _ _ _ _ _|exact ih1 _ _ _ _ _|exact ih2 _ _ _|exact ih3 _ _ _ _ _|exact ih4 _ _ _|exact ih5 _ _ _ _ _ _ _ _ _|exact ih6 _ _ _ _ _ _ _ _ _ _|exact ih7 _ _ _ _ _ _ _ _ _|exact ih8 _ _ _ _ _ _ _|exact ih9 _ _ _ _ _ _ _ _|exact Azk.mono _ _ _ _ _ _|exact LeO.refl _|exact LeO.none _|refine LeO.ite ?_ ?_|refine LeO.bind ?_ (fun _=>?_)
  ·intro y0 y1 y2;unfold Azz.l1;with_reducible repeat' first|exact ih0 _ _ _ _ _|exact ih1 _ _ _ _ _|exact ih2 _ _ _|exact ih3 _ _ _ _ _|exact ih4 _ _ _|exact ih5 _ _ _ _ _ _ _ _ _|exact ih6 _ _ _ _ _ _ _ _ _ _|exact ih7 _ _ _ _ _ _ _ _ _|exact ih8 _ _ _ _ _ _ _|exact ih9 _ _ _ _ _ _ _ _|exact Azk.mono _ _ _ _ _ _|exact LeO.refl _|exact LeO.none _|refine LeO.ite ?_ ?_|refine LeO.bind ?_ (fun _=>?_)
  ·intro y0 y1 y2 y3 y4;unfold Azz.l2;with_reducible repeat' first|exact ih0 _ _ _ _ _|exact ih1 _ _ _ _ _|exact ih2 _ _ _|exact ih3 _ _ _ _ _|exact ih4 _ _ _|exact ih5 _ _ _ _ _ _ _ _ _|exact ih6 _ _ _ _ _ _ _ _ _ _|exact ih7 _ _ _ _ _ _ _ _ _|exact ih8 _ _ _ _ _ _ _|exact ih9 _ _ _ _ _ _ _ _|exact Azk.mono _ _ _ _ _ _|exact LeO.refl _|exact LeO.none _|refine LeO.ite ?_ ?_|refine LeO.bind ?_ (fun _=>?_)
  ·intro y0 y1 y2;unfold Azz.l3;with_reducible repeat' first|exact ih0 _ _ _ _ _|exact ih1 _ _ _ _ _|exact ih2 _ _ _|exact ih3 _ _ _ _ _|exact ih4 _ _ _|exact ih5 _ _ _ _ _ _ _ _ _|exact ih6 _ _ _ _ _ _ _ _ _ _|exact ih7 _ _ _ _ _ _ _ _ _|exact ih8 _ _ _ _ _ _ _|exact ih9 _ _ _ _ _ _ _ _|exact Azk.mono _ _ _ _ _ _|exact LeO.refl _|exact LeO.none _|refine LeO.ite ?_ ?_|refine LeO.bind ?_ (fun _=>?_)
  ·intro y0 y1 y2 y3 y4 y5 y6 y7 y8;unfold Azz.j4;with_reducible repeat' first|exact ih0 _ _ _ _ _|exact ih1 _ _ _ _ _|exact ih2 _ _ _|exact ih3 _ _ _ _ _|exact ih4 _ _ _|exact ih5 _ _ _ _ _ _ _ _ _|exact ih6 _ _ _ _ _ _ _ _ _ _|exact ih7 _ _ _ _ _ _ _ _ _|exact ih8 _ _ _ _ _ _ _|exact ih9 _ _ _ _ _ _ _ _|exact Azk.mono _ _ _ _ _ _|exact LeO.refl _|exact LeO.none _|refine LeO.ite ?_ ?_|refine LeO.bind ?_ (fun _=>?_)
  ·intro y0 y1 y2 y3 y4 y5 y6 y7 y8 y9;unfold Azz.l4;with_reducible repeat' first|exact ih0 _ _ _ _ _|exact ih1 _ _ _ _ _|exact ih2 _ _ _|exact ih3 _ _ _ _ _|exact ih4 _ _ _|exact ih5 _ _ _ _ _ _ _ _ _|exact ih6 _ _ _ _ _ _ _ _ _ _|exact ih7 _ _ _ _ _ _ _ _ _|exact ih8 _ _ _ _ _ _ _|exact ih9 _ _ _ _ _ _ _ _|exact Azk.mono _ _ _ _ _ _|exact LeO.refl _|exact LeO.none _|refine LeO.ite ?_ ?_|refine LeO.bind ?_ (fun _=>?_)
  ·intro y0 y1 y2 y3 y4 y5 y6 y7 y8;unfold Azz.j6;with_reducible repeat' first|exact ih0 _ _ _ _ _|exact ih1 _ _ _ _ _|exact ih2 _ _ _|exact ih3 _ _ _ _ _|exact ih4 _ _ _|exact ih5 _ _ _ _ _ _ _ _ _|exact ih6 _ _ _ _ _ _ _ _ _ _|exact ih7 _ _ _ _ _ _ _ _ _|exact ih8 _ _ _ _ _ _ _|exact ih9 _ _ _ _ _ _ _ _|exact Azk.mono _ _ _ _ _ _|exact LeO.refl _|exact LeO.none _|refine LeO.ite ?_ ?_|refine LeO.bind ?_ (fun _=>?_)
  ·intro y0 y1 y2 y3 y4 y5 y6;unfold Azz.j7;with_reducible repeat' first|exact ih0 _ _ _ _ _|exact ih1 _ _ _ _ _|exact ih2 _ _ _|exact ih3 _ _ _ _ _|exact ih4 _ _ _|exact ih5 _ _ _ _ _ _ _ _ _|exact ih6 _ _ _ _ _ _ _ _ _ _|exact ih7 _ _ _ _ _ _ _ _ _|exact ih8 _ _ _ _ _ _ _|exact ih9 _ _ _ _ _ _ _ _|exact Azk.mono _ _ _ _ _ _|exact LeO.refl _|exact LeO.none _|refine LeO.ite ?_ ?_|refine LeO.bind ?_ (fun _=>?_)
  ·intro y0 y1 y2 y3 y4 y5 y6 y7;unfold Azz.j8;with_reducible repeat' first|exact ih0 _ _ _ _ _|exact ih1 _ _ _ _ _|exact ih2 _ _ _|exact ih3 _ _ _ _ _|exact ih4 _ _ _|exact ih5 _ _ _ _ _ _ _ _ _|exact ih6 _ _ _ _ _ _ _ _ _ _|exact ih7 _ _ _ _ _ _ _ _ _|exact ih8 _ _ _ _ _ _ _|exact ih9 _ _ _ _ _ _ _ _|exact Azk.mono _ _ _ _ _ _|exact LeO.refl _|exact LeO.none _|refine LeO.ite ?_ ?_|refine LeO.bind ?_ (fun _=>?_)
theorem Azz.mono:∀ a0 a1 a2 a3 a4 k,LeO (Azz.f k a0 a1 a2 a3 a4) (Azz.f (k+1) a0 a1 a2 a3 a4):=by
 intro a0 a1 a2 a3 a4 k;obtain⟨ih0,ih1,ih2,ih3,ih4,ih5,ih6,ih7,ih8,ih9⟩:=Azz.mono_l k;exact ih0 a0 a1 a2 a3 a4
def Azz.T5:Bool × List (List Nat × List Nat):=(true,[([],[]),([],[]),([],[]),([1,2],[1,2]),([3],[3]),([],[]),([],[]),([5,6],[5,6]),([7],[7]),([0,4,8],[0,4,8]),([9],[9])])
def Azz.B5:List Nat:=[0,0,0,6,14,0,0,96,224,511,1023]
theorem Azz.tab5:rtab .any (opsOf Try.f58 5)=Azz.T5:=by kernel_rfl
theorem Azz.bits5:waitsOk Azz.T5.2 Azz.B5=true:=by kernel_rfl
def Azz.T11:Bool × List (List Nat × List Nat):=(true,[([],[]),([],[]),([],[]),([],[]),([3],[3]),([],[]),([],[]),([6],[6]),([5,7],[5,7]),([8],[8]),([],[]),([],[]),([10,11],[10,11]),([12],[12]),([0,1,0,1,5,6,7,8,9,13],[0,1]),([14,9,0,1,5,6,7,8,9,13],[9,14]),([2,4,0,1,2,3,4,5,6,7,8,9,10,11,12,13,14,15],[2,4]),([16,13,15,0,1,2,3,4,5,6,7,8,9,10,11,12,13,14,15],[13,16])])
def Azz.B11:List Nat:=[0,0,0,0,8,0,0,64,224,480,0,0,3072,7168,16355,32739,65535,131071]
theorem Azz.tab11:rtab .any (opsOf Try.f58 11)=Azz.T11:=by kernel_rfl
theorem Azz.bits11:waitsOk Azz.T11.2 Azz.B11=true:=by kernel_rfl
def Azz.T17:Bool × List (List Nat × List Nat):=(true,[([],[]),([],[]),([],[]),([1,2],[1,2]),([3],[3]),([],[]),([],[]),([5,6],[5,6]),([7],[7]),([0,4,8],[0,4,8]),([9],[9]),([10],[10])])
def Azz.B17:List Nat:=[0,0,0,6,14,0,0,96,224,511,1023,2047]
theorem Azz.tab17:rtab .any (opsOf Try.f58 17)=Azz.T17:=by kernel_rfl
theorem Azz.bits17:waitsOk Azz.T17.2 Azz.B17=true:=by kernel_rfl
def Azz.T23:Bool × List (List Nat × List Nat):=(true,[([],[]),([],[]),([],[]),([],[]),([3],[3]),([],[]),([],[]),([6],[6]),([5,7],[5,7]),([8],[8]),([],[]),([],[]),([10,11],[10,11]),([12],[12]),([0,1,0,1,5,6,7,8,9,13],[0,1]),([14,9,0,1,5,6,7,8,9,13],[9,14]),([2,4,0,1,2,3,4,5,6,7,8,9,10,11,12,13,14,15],[2,4]),([16,13,15,0,1,2,3,4,5,6,7,8,9,10,11,12,13,14,15],[13,16])])
def Azz.B23:List Nat:=[0,0,0,0,8,0,0,64,224,480,0,0,3072,7168,16355,32739,65535,131071]
theorem Azz.tab23:rtab .any (opsOf Try.f58 23)=Azz.T23:=by kernel_rfl
theorem Azz.bits23:waitsOk Azz.T23.2 Azz.B23=true:=by kernel_rfl
def Azz.T35:Bool × List (List Nat × List Nat):=(true,[([],[]),([],[]),([],[]),([],[]),([2,3],[2,3]),([1,4],[1,4]),([5],[5]),([],[]),([],[]),([7,8],[7,8]),([9],[9]),([0,6,10],[0,6,10]),([11],[11]),([12],[12])])
def Azz.B35:List Nat:=[0,0,0,0,12,30,62,0,0,384,896,2047,4095,8191]
theorem Azz.tab35:rtab .any (opsOf Try.f58 35)=Azz.T35:=by kernel_rfl
theorem Azz.bits35:waitsOk Azz.T35.2 Azz.B35=true:=by kernel_rfl
set_option maxHeartbeats 64000000 in
theorem Azz.calls (k:Nat):∀ (P0_:Nat→Prop) (u9000_:Value) (l0:List Int) (a1:Int) (a2:Int) (a3:Int) (A4_0:Option Addr) (c4_0:Nat) (l4_0:List (List Int)) (r:List Int) (w0 w:World) (hB:Below w0.heap.size w0 w) (ho0:Kd.R (Kd.int .i64) 3 w w0.heap.size P0_ u9000_ l0) (hr4_0:∀ W_,Kept w W_ (fun k_=>P0_ k_)→Kd.C (Kd.slice 3 (Kd.int .i64)) W_ A4_0 l4_0.length l4_0) (hc4_0:l4_0.length≤c4_0) (h:Azz.f k l0 a1 a2 a3 l4_0=some r),
  Calls Try.prog 58 #[u9000_,.int .i64 a1,.int .i64 a2,.int .i64 a3,.func (.func 26) #[] #[.pointer A4_0]] w fun e w'=>e=.returned (.tuple #[])∧Kd.R (Kd.int .i64) 3 w' w0.heap.size (fun k_=>(P0_ k_∨w.heap.size≤k_)) u9000_ r∧Below w0.heap.size w0 w'∧Kept w w' (fun k_=>P0_ k_):=by
 induction k using Nat.strongRecOn with
 | _ k ih =>
 intro P0_ u9000_ l0 a1 a2 a3 A4_0 c4_0 l4_0 r w0 w hB ho0 hr4_0 hc4_0 h;cases k with
 | zero=>exact absurd h (by simp [Azz.f])
 | succ k =>
 simp only[Azz.f] at h;have HO0:=aM (show Kd.R (Kd.int .i64) 3 w w0.heap.size (fun k_=>(P0_ k_∨w.heap.size≤k_)) u9000_ l0 from Kd.R_mono ho0 (fun k_ hk=>(.inl hk)))
 have HR4_0:=aM hr4_0;have HC4_0:=aM hc4_0;clear hr4_0 hc4_0;have HK:=aM (Kept.refl w (fun k_=>P0_ k_))
 have HW0:=aM hB.size;have HB:=aM hB;clear hB;have H:(if(wrap64 (a2 - a1))=1 then(Azz.l0 k l0 a1 a2 a3 l4_0) else(if(wrap64 (a3 - a2))=1 then(Azz.l2 k l0 a2 a1 a2 l4_0) else(if a2 > (wrap64 ((IntKind.u64.wrap (wrap64 (a1+a3))) / 2)) then(Azz.j4 k l0 a1 a2 a3 (wrap64 ((IntKind.u64.wrap (wrap64 (a1+a3))) / 2)) (wrap64 ((wrap64 ((IntKind.u64.wrap (wrap64 (a1+a3))) / 2))+a2)) (wrap64 ((wrap64 ((wrap64 ((IntKind.u64.wrap (wrap64 (a1+a3))) / 2))+a2)) - a3)) (wrap64 ((IntKind.u64.wrap (wrap64 (a1+a3))) / 2)) l4_0) else(Azz.j4 k l0 a1 a2 a3 (wrap64 ((IntKind.u64.wrap (wrap64 (a1+a3))) / 2)) (wrap64 ((wrap64 ((IntKind.u64.wrap (wrap64 (a1+a3))) / 2))+a2)) a1 a2 l4_0))))=some r:=h
 clear h;by_cases c6:(wrap64 (a2 - a1))=1
 ·rw[if_pos c6] at H;have c6b0:((wrap64 (a2 - a1)) == 1)=true:=beq_iff_eq.mpr c6;have c6b1:((wrap64 (a2 - a1)) != 1)=false:=bne_eq_false_iff_eq.mpr c6;clear c6;have H':=aM H;clear H;go_enter Try.func58,Try.ntmps58
  go_wp2
  go_loopg [10,11] k (fun kq v10 v11 w'=>∃ (x10_1:Int) (x11_1:Int),v10=.int .i64 x10_1∧v11=.int .i64 x11_1∧Aside0 (Azz.l0 kq l0 a1 x10_1 x11_1 l4_0=some r)∧Aside0 (kq≤k)∧Aside0 (Kd.R (Kd.int .i64) 3 w' w0.heap.size (fun k_=>(P0_ k_∨w.heap.size≤k_)) u9000_ l0)∧Aside0 (Kept w w' (fun k_=>P0_ k_))∧Aside0 (Below w0.heap.size w0 w'))
  case atStart=>exact⟨(a2),(a3),sD,sD,H',⟨Nat.le_refl _⟩,⟨rX HO0.out⟩,⟨kK HK⟩,⟨pB⟩⟩
  case round =>
   clear H';try clear p2
   try clear c4
   try clear c6
   try clear c6b0
   try clear c6b1
   try clear p6
   obtain⟨x10_1,x11_1,rfl,rfl,HA,HK1,HO_0,HK,HB⟩:=hrel;cases gk with
   | zero=>exact absurd HA.out (by simp [Azz.l0])
   | succ k1 =>
    have H:=HA.out;clear HA;simp only[Azz.l0] at H;by_cases c7:x10_1 < x11_1
    ·rw[if_pos c7] at H;have c7b0:decide (x10_1 < x11_1)=true:=dE c7;clear c7;obtain⟨ji8,hji8⟩:∃ j_:Int,(wrap64 ((IntKind.u64.wrap (wrap64 (x10_1+x11_1))) / 2))=j_:=⟨_,rfl⟩;replace H:(if 0≤(ji8) then(if(ji8) < (l0.length:Int) then(if 0≤a1 then(if a1 < (l0.length:Int) then((Czj.f (rd l0 (ji8)) (rd l0 a1) l4_0).bind fun t176=>(if t176 < 0 then(Azz.l0 k1 l0 a1 (wrap64 ((ji8)+1)) x11_1 l4_0) else(Azz.l0 k1 l0 a1 x10_1 ji8 l4_0))) else(none)) else(none)) else(none)) else(none))=some r:=by first|(rw[hji8] at H;exact H)|(simp only[hji8] at H ⊢;exact H)
     have hji8w:(IntKind.i64.wrap ((IntKind.u64.wrap (wrap64 (x10_1+x11_1))) / 2))=ji8:=(i64_w _).trans hji8;by_cases c9:0≤(ji8)
     ·rw[if_pos c9] at H;have c9b0:decide (0≤(ji8))=true:=dE c9;clear c9;by_cases c10:(ji8) < (l0.length:Int)
      ·rw[if_pos c10] at H;have c10b0:decide ((ji8) < (l0.length:Int))=true:=dE c10;clear c10;by_cases c11:0≤a1
       ·rw[if_pos c11] at H;have c11b0:decide (0≤a1)=true:=dE c11;clear c11;by_cases c12:a1 < (l0.length:Int)
        ·rw[if_pos c12] at H;have c12b0:decide (a1 < (l0.length:Int))=true:=dE c12;clear c12;replace H:=bS H;obtain⟨t176,A130,H⟩:=H;(try dsimp only at H);have A13:=aM A130;clear A130;by_cases c14:t176 < 0
         ·rw[if_pos c14] at H;have c14b0:decide (t176 < 0)=true:=dE c14;clear c14;have H':=aM H;clear H;try go_wp2
          have n0_:=aM (Kd.R_drew HO_0.out);have n1_:=aM (Kept.drew HK.out);have n2_:=aM (below_drew1 HB.out);clear HO_0;clear HK;clear HB;have HO_0:=n0_;have HK:=n1_;have HB:=n2_;clear n0_ n1_ n2_;obtain⟨Ao16,co16,eo16⟩:=Kd.R_slice HO_0.out;(first|subst eo16|(injection eo16 with f1_ f2_ f3_;have f4_:=f1_.symm;have f5_:=f3_.symm;clear f1_ f2_ f3_;subst f4_;subst f5_))
          have p174:0≤((ji8):Int):=oE aS
          have q174:(ji8) < (l0.length:Int):=oE aS
          obtain⟨ad174,e174,hx174_0⟩:=Kd.at_int (Kd.R_reads' HO_0.out).2.2 (ji8) p174 q174;cases e174
          replace p174:=eq_true p174;replace q174:=eq_true q174;have p175:0≤(a1:Int):=oE aS
          have q175:a1 < (l0.length:Int):=oE aS
          obtain⟨ad175,e175,hx175_0⟩:=Kd.at_int (Kd.R_reads' HO_0.out).2.2 a1 p175 q175;obtain rfl:ad174=ad175:=(by injection e175)
          replace p175:=eq_true p175;replace q175:=eq_true q175;refine start_ (n:=11) (S:=fun w'=>w'.cell? (ad174.add ((ji8)).toNat)=some (.int .i64 (rd l0 (ji8)))∧w'.cell? (ad174.add (a1).toNat)=some (.int .i64 (rd l0 a1))) (ds:=[]) #[false,false,false,false,false,false,false,false,false,false,false] (by kernel_rfl) rfl rfl ⟨hx174_0,hx175_0⟩ (fun hHeld=>?_);refine with_tabW Azz.tab5 Azz.bits5 (fun HT_ HW_=>?_)
          generalize wr.drew=w15 at HO_0 HK HB hx174_0 hx175_0 hHeld ⊢;refine pU (i:=0) (N:=some 40) HT_ #[true,false,false,false,false,false,false,false,false,false,false] ?_;refine pU (i:=1) (N:=some 41) HT_ #[true,true,false,false,false,false,false,false,false,false,false] ?_;refine pU (i:=2) (N:=some 42) HT_ #[true,true,true,false,false,false,false,false,false,false,false] ?_;refine pU (i:=3) (N:=some 43) HT_ #[true,true,true,true,false,false,false,false,false,false,false] ?_;refine pU (i:=5) (N:=some 45) HT_ #[true,true,true,true,false,true,false,false,false,false,false] ?_;refine pU (i:=6) (N:=some 46) HT_ #[true,true,true,true,false,true,true,false,false,false,false] ?_;refine pU (i:=7) (N:=some 47) HT_ #[true,true,true,true,false,true,true,true,false,false,false] ?_;refine take_ (i:=4) (N:=some 44) (v:=?_) (a':=?_) #[true,true,true,true,true,true,true,true,false,false,false] rfl rfl (take_ofW HT_.out HW_.out (by kernel_rfl)) (fun _ _ _ h=>h) (Or.inl ⟨by rfl,?_⟩) hHeld ?_ ?_
          rotate_left
          ·rintro w' ⟨s0,s1⟩;go_simp
           with_reducible rfl
          rotate_left
          ·simp only[Act.put,sA,sZ,sC,i64_w,i32_w];rfl
          refine take_ (i:=8) (N:=some 48) (v:=?_) (a':=?_) #[true,true,true,true,true,true,true,true,true,false,false] rfl rfl (take_ofW HT_.out HW_.out (by kernel_rfl)) (fun _ _ _ h=>h) (Or.inl ⟨by rfl,?_⟩) hHeld ?_ ?_
          rotate_left
          ·rintro w' ⟨s0,s1⟩;go_simp
           with_reducible rfl
          rotate_left
          ·simp only[Act.put,sA,sZ,sC,i64_w,i32_w];rfl
          refine one_ (i:=9) (N:=some 49) #[true,true,true,true,true,true,true,true,true,true,false] rfl rfl (one_of HT_.out (by kernel_rfl)) (by decide) (fun K hK=>?_)
          refine goesv_ Try.func26 (by kernel_rfl) rfl #[.int .i64 (rd l0 (ji8)),.int .i64 (rd l0 a1),.pointer A4_0] (by rfl) rfl rfl (by(try simp only[List.map_toArray,List.map_cons,List.map_nil]);first|done|(simp only[hji8];rfl)|rfl|(simp only[List.length_drop,List.length_take];rfl)) ?_
          with_reducible refine(Czj.calls (rd l0 (ji8)) (rd l0 a1) _ c4_0 l4_0 t176 _ ?side1 ?side2 A13.out).mono ?_
          (case side1=>exact Kd.C_kept_now HR4_0.out (kK HK))
          (case side2=>exact HC4_0.out)
          rintro e w' ⟨rfl,⟨nd,rfl⟩⟩;refine⟨_,rfl,?_⟩;refine hK.out _ _ ⟨hHeld.1,hHeld.2⟩ (fun hHeld=>?_)
          clear hK K;refine norm_ (a':=?_) ?_ ?_;rotate_left
          ·show Act.put _ (some 49) _=_
           simp only[Act.put,sA,sZ,sC,i64_w,i32_w];rfl
          refine pU (i:=10) (N:=some 50) HT_ #[true,true,true,true,true,true,true,true,true,true,true] ?_;refine done_ (done_of HT_.out (by kernel_rfl)) ?_
          try go_wp2
          go_roundg k1
          case measure=>have:=HK1.out;omega
          case rel=>exact⟨(wrap64 ((ji8)+1)),(x11_1),(by first|rfl|(simp;done)|(simp only[← hji8] <;> (first|rfl|simp))|(simp [*];done)),sD,H',⟨by have:=HK1.out;omega⟩,⟨rX HO_0.out⟩,⟨kK HK⟩,⟨pB⟩⟩
         ·rw[if_neg c14] at H;have c14b0:decide (t176 < 0)=false:=decide_eq_false c14;clear c14;have H':=aM H;clear H;try go_wp2
          have n0_:=aM (Kd.R_drew HO_0.out);have n1_:=aM (Kept.drew HK.out);have n2_:=aM (below_drew1 HB.out);clear HO_0;clear HK;clear HB;have HO_0:=n0_;have HK:=n1_;have HB:=n2_;clear n0_ n1_ n2_;obtain⟨Ao18,co18,eo18⟩:=Kd.R_slice HO_0.out;(first|subst eo18|(injection eo18 with f1_ f2_ f3_;have f4_:=f1_.symm;have f5_:=f3_.symm;clear f1_ f2_ f3_;subst f4_;subst f5_))
          have p174:0≤((ji8):Int):=oE aS
          have q174:(ji8) < (l0.length:Int):=oE aS
          obtain⟨ad174,e174,hx174_0⟩:=Kd.at_int (Kd.R_reads' HO_0.out).2.2 (ji8) p174 q174;cases e174
          replace p174:=eq_true p174;replace q174:=eq_true q174;have p175:0≤(a1:Int):=oE aS
          have q175:a1 < (l0.length:Int):=oE aS
          obtain⟨ad175,e175,hx175_0⟩:=Kd.at_int (Kd.R_reads' HO_0.out).2.2 a1 p175 q175;obtain rfl:ad174=ad175:=(by injection e175)
          replace p175:=eq_true p175;replace q175:=eq_true q175;refine start_ (n:=11) (S:=fun w'=>w'.cell? (ad174.add ((ji8)).toNat)=some (.int .i64 (rd l0 (ji8)))∧w'.cell? (ad174.add (a1).toNat)=some (.int .i64 (rd l0 a1))) (ds:=[]) #[false,false,false,false,false,false,false,false,false,false,false] (by kernel_rfl) rfl rfl ⟨hx174_0,hx175_0⟩ (fun hHeld=>?_);refine with_tabW Azz.tab5 Azz.bits5 (fun HT_ HW_=>?_)
          generalize wr.drew=w17 at HO_0 HK HB hx174_0 hx175_0 hHeld ⊢;refine pU (i:=0) (N:=some 40) HT_ #[true,false,false,false,false,false,false,false,false,false,false] ?_;refine pU (i:=1) (N:=some 41) HT_ #[true,true,false,false,false,false,false,false,false,false,false] ?_;refine pU (i:=2) (N:=some 42) HT_ #[true,true,true,false,false,false,false,false,false,false,false] ?_;refine pU (i:=3) (N:=some 43) HT_ #[true,true,true,true,false,false,false,false,false,false,false] ?_;refine pU (i:=5) (N:=some 45) HT_ #[true,true,true,true,false,true,false,false,false,false,false] ?_;refine pU (i:=6) (N:=some 46) HT_ #[true,true,true,true,false,true,true,false,false,false,false] ?_;refine pU (i:=7) (N:=some 47) HT_ #[true,true,true,true,false,true,true,true,false,false,false] ?_;refine take_ (i:=4) (N:=some 44) (v:=?_) (a':=?_) #[true,true,true,true,true,true,true,true,false,false,false] rfl rfl (take_ofW HT_.out HW_.out (by kernel_rfl)) (fun _ _ _ h=>h) (Or.inl ⟨by rfl,?_⟩) hHeld ?_ ?_
          rotate_left
          ·rintro w' ⟨s0,s1⟩;go_simp
           with_reducible rfl
          rotate_left
          ·simp only[Act.put,sA,sZ,sC,i64_w,i32_w];rfl
          refine take_ (i:=8) (N:=some 48) (v:=?_) (a':=?_) #[true,true,true,true,true,true,true,true,true,false,false] rfl rfl (take_ofW HT_.out HW_.out (by kernel_rfl)) (fun _ _ _ h=>h) (Or.inl ⟨by rfl,?_⟩) hHeld ?_ ?_
          rotate_left
          ·rintro w' ⟨s0,s1⟩;go_simp
           with_reducible rfl
          rotate_left
          ·simp only[Act.put,sA,sZ,sC,i64_w,i32_w];rfl
          refine one_ (i:=9) (N:=some 49) #[true,true,true,true,true,true,true,true,true,true,false] rfl rfl (one_of HT_.out (by kernel_rfl)) (by decide) (fun K hK=>?_)
          refine goesv_ Try.func26 (by kernel_rfl) rfl #[.int .i64 (rd l0 (ji8)),.int .i64 (rd l0 a1),.pointer A4_0] (by rfl) rfl rfl (by(try simp only[List.map_toArray,List.map_cons,List.map_nil]);first|done|(simp only[hji8];rfl)|rfl|(simp only[List.length_drop,List.length_take];rfl)) ?_
          with_reducible refine(Czj.calls (rd l0 (ji8)) (rd l0 a1) _ c4_0 l4_0 t176 _ ?side1 ?side2 A13.out).mono ?_
          (case side1=>exact Kd.C_kept_now HR4_0.out (kK HK))
          (case side2=>exact HC4_0.out)
          rintro e w' ⟨rfl,⟨nd,rfl⟩⟩;refine⟨_,rfl,?_⟩;refine hK.out _ _ ⟨hHeld.1,hHeld.2⟩ (fun hHeld=>?_)
          clear hK K;refine norm_ (a':=?_) ?_ ?_;rotate_left
          ·show Act.put _ (some 49) _=_
           simp only[Act.put,sA,sZ,sC,i64_w,i32_w];rfl
          refine pU (i:=10) (N:=some 50) HT_ #[true,true,true,true,true,true,true,true,true,true,true] ?_;refine done_ (done_of HT_.out (by kernel_rfl)) ?_
          try go_wp2
          go_roundg k1
          case measure=>have:=HK1.out;omega
          case rel=>exact⟨(x10_1),(ji8),sD,(by first|rfl|(simp;done)|(simp only[← hji8] <;> (first|rfl|simp))|(simp [*];done)),H',⟨by have:=HK1.out;omega⟩,⟨rX HO_0.out⟩,⟨kK HK⟩,⟨pB⟩⟩
        ·rw[if_neg c12] at H;exact absurd H (by simp)
       ·rw[if_neg c11] at H;exact absurd H (by simp)
      ·rw[if_neg c10] at H;exact absurd H (by simp)
     ·rw[if_neg c9] at H;exact absurd H (by simp)
    ·rw[if_neg c7] at H;have c7b0:decide (x10_1 < x11_1)=false:=decide_eq_false c7;clear c7;have H':=aM H;clear H;go_wp2
     go_loopg [13] k1 (fun kq v13 w'=>∃ (x0_2:List Int) (x13_2:Int),v13=.int .i64 x13_2∧Aside0 (Azz.l1 kq x0_2 x10_1 x13_2=some r)∧Aside0 (kq≤k1)∧Aside0 (Kd.R (Kd.int .i64) 3 w' w0.heap.size (fun k_=>(P0_ k_∨w.heap.size≤k_)) u9000_ x0_2)∧Aside0 (Kept w w' (fun k_=>P0_ k_))∧Aside0 (Below w0.heap.size w0 w'))
     case atStart=>exact⟨(l0),(a1),sD,H',⟨Nat.le_refl _⟩,⟨rX HO_0.out⟩,⟨kK HK⟩,⟨pB⟩⟩
     case round =>
      clear H';try clear c1
      try clear p1
      try clear q1
      try clear hx1
      try clear c2
      try clear p2
      try clear c4
      try clear c6
      try clear c6b0
      try clear c6b1
      try clear p6
      try clear c7
      try clear c7b0
      try clear c9
      try clear c9b0
      try clear c10
      try clear c10b0
      try clear c11
      try clear c11b0
      try clear c12
      try clear c12b0
      try clear c14
      try clear c14b0
      try clear p17
      try clear q17
      try clear hx17
      try clear hx174_0
      try clear hx175_0
      try clear p174
      try clear p175
      try clear p2
      try clear p6
      try clear q174
      try clear q175
      obtain⟨x0_2,x13_2,rfl,HA,HK2,HO_0,HK,HB⟩:=hrel;cases gk with
      | zero=>exact absurd HA.out (by simp [Azz.l1])
      | succ k2 =>
       have H:=HA.out;clear HA;simp only[Azz.l1] at H;by_cases c19:x13_2 < (wrap64 (x10_1 - 1))
       ·rw[if_pos c19] at H;have c19b0:decide (x13_2 < (wrap64 (x10_1 - 1)))=true:=dE c19;have c19b0w:decide (x13_2 < (IntKind.i64.wrap (x10_1 - 1)))=true:=by have h_:=c19b0;first|exact h_|(simp only[i64_w];exact h_)
        clear c19;obtain⟨ji20,hji20⟩:∃ j_:Int,(wrap64 (x13_2+1))=j_:=⟨_,rfl⟩;replace H:(if 0≤(ji20) then(if(ji20) < (x0_2.length:Int) then(if 0≤x13_2 then(if x13_2 < (x0_2.length:Int) then(Azz.l1 k2 ((x0_2.set (x13_2:Int).toNat (rd x0_2 (ji20))).set ((ji20):Int).toNat (rd x0_2 x13_2)) x10_1 ji20) else(none)) else(none)) else(none)) else(none))=some r:=by first|(rw[hji20] at H;exact H)|(simp only[hji20] at H ⊢;exact H)
        have hji20w:(IntKind.i64.wrap (x13_2+1))=ji20:=(i64_w _).trans hji20;by_cases c21:0≤(ji20)
        ·rw[if_pos c21] at H;have c21b0:decide (0≤(ji20))=true:=dE c21;clear c21;by_cases c22:(ji20) < (x0_2.length:Int)
         ·rw[if_pos c22] at H;have c22b0:decide ((ji20) < (x0_2.length:Int))=true:=dE c22;clear c22;by_cases c23:0≤x13_2
          ·rw[if_pos c23] at H;have c23b0:decide (0≤x13_2)=true:=dE c23;clear c23;by_cases c24:x13_2 < (x0_2.length:Int)
           ·rw[if_pos c24] at H;have c24b0:decide (x13_2 < (x0_2.length:Int))=true:=dE c24;clear c24;obtain⟨y179,hy179⟩:∃ y_:List Int,y_=(x0_2.set (x13_2:Int).toNat (rd x0_2 (ji20))):=⟨_,rfl⟩;replace H:(Azz.l1 k2 (y179.set ((ji20):Int).toNat (rd x0_2 x13_2)) x10_1 ji20)=some r:=by first|(rw[hy179];with_reducible exact H)|(have H2_:=(Option.bind_some _ _).symm.trans H;rw[hy179];with_reducible exact H2_)|(have H2_:=(Option.bind_some _ _).symm.trans H;with_reducible exact H2_)|with_reducible exact H|(rw[hy179];exact H)|exact H
            have Ny179:=aM hy179;clear hy179;obtain⟨y180,hy180⟩:∃ y_:List Int,y_=(y179.set ((ji20):Int).toNat (rd x0_2 x13_2)):=⟨_,rfl⟩;replace H:(Azz.l1 k2 y180 x10_1 ji20)=some r:=by first|(rw[hy180];with_reducible exact H)|(have H2_:=(Option.bind_some _ _).symm.trans H;rw[hy180];with_reducible exact H2_)|(have H2_:=(Option.bind_some _ _).symm.trans H;with_reducible exact H2_)|with_reducible exact H|(rw[hy180];exact H)|exact H
            have Ny180:=aM hy180;clear hy180;have H':=aM H;clear H;try go_wp2
            have n0_:=aM (Kd.R_drew HO_0.out);have n1_:=aM (Kept.drew HK.out);have n2_:=aM (below_drew1 HB.out);clear HO_0;clear HK;clear HB;have HO_0:=n0_;have HK:=n1_;have HB:=n2_;clear n0_ n1_ n2_;obtain⟨Ao28,co28,eo28⟩:=Kd.R_slice HO_0.out;(first|subst eo28|(injection eo28 with f1_ f2_ f3_;have f4_:=f1_.symm;have f5_:=f3_.symm;clear f1_ f2_ f3_;subst f4_;subst f5_))
            have p177:0≤((ji20):Int):=oE aS
            have q177:(ji20) < (x0_2.length:Int):=oE aS
            obtain⟨ad177,e177,hx177_0⟩:=Kd.at_int (Kd.R_reads' HO_0.out).2.2 (ji20) p177 q177;cases e177
            replace p177:=eq_true p177;replace q177:=eq_true q177;have p178:0≤(x13_2:Int):=oE aS
            have q178:x13_2 < (x0_2.length:Int):=oE aS
            obtain⟨ad178,e178,hx178_0⟩:=Kd.at_int (Kd.R_reads' HO_0.out).2.2 x13_2 p178 q178;obtain rfl:ad177=ad178:=(by injection e178)
            replace p178:=eq_true p178;replace q178:=eq_true q178;have p25:0≤(x13_2:Int):=oE aS
            have q25:(x13_2:Int) < ((x0_2.length:Int):Int):=oE aS
            obtain⟨go25,co25,eo25,gb25,gl25,cl25,HG25⟩:=Kd.R_form HO_0.out (by omega)
            (first|cases eo25|(injection eo25 with ea_ en_ ec_;(first|subst ea_|(injection ea_ with ea_;subst ea_));subst ec_;clear en_))
            have GB25:=aM gb25;have GG25:=aM HG25;clear gb25 gl25 HG25;have HMgo25:=aM (show(P0_ go25∨w.heap.size≤go25) from(HO_0.out.1 _ rfl))
            (first|simp only[add_plain] at hx177_0|skip)
            (first|simp only[add_plain] at hx178_0|skip)
            obtain⟨hx25_0,hf25_0⟩:=Kd.R_celln 0 HO_0.out (x13_2:Int) p25 q25;replace p25:=eq_true p25;replace q25:=eq_true q25;have HP29:=Kd.R_putn HO_0.out (x13_2:Int) (rd x0_2 (ji20));rw[← Ny179.out] at HP29;have HQ29:=aM HP29;clear HP29;have p26:0≤((ji20):Int):=oE aS
            have q26:((ji20):Int) < ((x0_2.length:Int):Int):=oE aS
            obtain⟨hx26_0,hf26_0⟩:=Kd.R_celln 0 HQ29.out ((ji20):Int) p26 q26;replace p26:=eq_true p26;replace q26:=eq_true q26;have HP30:=Kd.R_putn HQ29.out ((ji20):Int) (rd x0_2 x13_2);rw[← Ny180.out] at HP30;have HQ30:=aM HP30;clear HP30;refine start_ (n:=18) (S:=fun w'=>w'.cell? ⟨go25,((ji20)).toNat,none⟩=some (.int .i64 (rd x0_2 (ji20)))∧w'.cell? ⟨go25,(x13_2).toNat,none⟩=some (.int .i64 (rd x0_2 x13_2))) (ds:=[15,17]) #[false,false,false,false,false,false,false,false,false,false,false,false,false,false,false,false,false,false] (by kernel_rfl) rfl rfl ⟨hx177_0,hx178_0⟩ (fun hHeld=>?_);refine with_tabW Azz.tab11 Azz.bits11 (fun HT_ HW_=>?_)
            generalize wr.drew=w27 at HO_0 HK HB GG25 HQ29 HQ30 hf25_0 hf26_0 hx177_0 hx178_0 hx25_0 hx26_0 hHeld ⊢;refine pU (i:=0) (N:=some 61) HT_ #[true,false,false,false,false,false,false,false,false,false,false,false,false,false,false,false,false,false] ?_;refine pU (i:=1) (N:=some 62) HT_ #[true,true,false,false,false,false,false,false,false,false,false,false,false,false,false,false,false,false] ?_;refine pU (i:=2) (N:=some 63) HT_ #[true,true,true,false,false,false,false,false,false,false,false,false,false,false,false,false,false,false] ?_;refine pU (i:=3) (N:=some 64) HT_ #[true,true,true,true,false,false,false,false,false,false,false,false,false,false,false,false,false,false] ?_;refine pU (i:=4) (N:=some 65) HT_ #[true,true,true,true,true,false,false,false,false,false,false,false,false,false,false,false,false,false] ?_;refine pU (i:=5) (N:=some 66) HT_ #[true,true,true,true,true,true,false,false,false,false,false,false,false,false,false,false,false,false] ?_;refine pU (i:=6) (N:=some 67) HT_ #[true,true,true,true,true,true,true,false,false,false,false,false,false,false,false,false,false,false] ?_;refine pU (i:=7) (N:=some 68) HT_ #[true,true,true,true,true,true,true,true,false,false,false,false,false,false,false,false,false,false] ?_;refine pU (i:=8) (N:=some 69) HT_ #[true,true,true,true,true,true,true,true,true,false,false,false,false,false,false,false,false,false] ?_;refine pU (i:=10) (N:=some 71) HT_ #[true,true,true,true,true,true,true,true,true,false,true,false,false,false,false,false,false,false] ?_;refine pU (i:=11) (N:=some 72) HT_ #[true,true,true,true,true,true,true,true,true,false,true,true,false,false,false,false,false,false] ?_;refine pU (i:=12) (N:=some 73) HT_ #[true,true,true,true,true,true,true,true,true,false,true,true,true,false,false,false,false,false] ?_;refine take_ (i:=9) (N:=some 70) (v:=?_) (a':=?_) #[true,true,true,true,true,true,true,true,true,true,true,true,true,false,false,false,false,false] rfl rfl (take_ofW HT_.out HW_.out (by kernel_rfl)) (fun _ _ _ h=>h) (Or.inl ⟨by rfl,?_⟩) hHeld ?_ ?_
            rotate_left
            ·rintro w' ⟨s0,s1⟩;go_simp
             with_reducible rfl
            rotate_left
            ·simp only[Act.put,sA,sZ,sC,i64_w,i32_w];rfl
            refine take_ (i:=13) (N:=some 74) (v:=?_) (a':=?_) #[true,true,true,true,true,true,true,true,true,true,true,true,true,true,false,false,false,false] rfl rfl (take_ofW HT_.out HW_.out (by kernel_rfl)) (fun _ _ _ h=>h) (Or.inl ⟨by rfl,?_⟩) hHeld ?_ ?_
            rotate_left
            ·rintro w' ⟨s0,s1⟩;go_simp
             with_reducible rfl
            rotate_left
            ·simp only[Act.put,sA,sZ,sC,i64_w,i32_w];rfl
            refine pU (i:=14) (N:=some 75) HT_ #[true,true,true,true,true,true,true,true,true,true,true,true,true,true,true,false,false,false] ?_;refine last_ (i:=15) (N:=none) #[true,true,true,true,true,true,true,true,true,true,true,true,true,true,true,true,false,false] rfl rfl (one_of HT_.out (by kernel_rfl)) (by decide) (fun K hK=>?_)
            refine skip_ (w1:=?_) (by rfl) rfl ?_ ?_
            rotate_left
            ·go_simp
             rfl
            refine hK.out _ _ ?_;clear hK K;refine pU (i:=16) (N:=some 76) HT_ #[true,true,true,true,true,true,true,true,true,true,true,true,true,true,true,true,true,false] ?_;refine last_ (i:=17) (N:=none) #[true,true,true,true,true,true,true,true,true,true,true,true,true,true,true,true,true,true] rfl rfl (one_of HT_.out (by kernel_rfl)) (by decide) (fun K hK=>?_)
            refine skip_ (w1:=?_) (by rfl) rfl ?_ ?_
            rotate_left
            ·go_simp
             rfl
            refine hK.out _ _ ?_;clear hK K;refine done_ (done_of HT_.out (by kernel_rfl)) ?_
            try go_wp2
            go_roundg k2
            case measure=>have:=HK1.out;have:=HK2.out;omega
            case rel=>exact⟨(y180),(ji20),(by first|rfl|(simp;done)|(simp only[← hji20] <;> (first|rfl|simp))|(simp [*];done)),H',⟨by have:=HK1.out;have:=HK2.out;omega⟩,⟨rX HQ30.out⟩,⟨by repeat(first|(with_reducible first|exact HK.out|apply Kept.alloc|apply Kept.drewN|apply Kept.drew|refine Kept.setCell ?_ HMgo25.out _|refine Kept.setCell ?_ HMgo25.out _)|exact HK.out)⟩,⟨pB⟩⟩
           ·rw[if_neg c24] at H;exact absurd H (by simp)
          ·rw[if_neg c23] at H;exact absurd H (by simp)
         ·rw[if_neg c22] at H;exact absurd H (by simp)
        ·rw[if_neg c21] at H;exact absurd H (by simp)
       ·rw[if_neg c19] at H;have c19b0:decide (x13_2 < (wrap64 (x10_1 - 1)))=false:=decide_eq_false c19;have c19b0w:decide (x13_2 < (IntKind.i64.wrap (x10_1 - 1)))=false:=by have h_:=c19b0;first|exact h_|(simp only[i64_w];exact h_)
        clear c19;obtain rfl:=Option.some.inj H;go_wp2
        first|go_end0|((try simp only[Exit.inBlock,Exit.then]);refine bodyPost_ret (results_none rfl _ _ _) rfl ?_)
        exact⟨eW,rX HO_0.out,pB,kK HK⟩
 ·rw[if_neg c6] at H;have c6b0:((wrap64 (a2 - a1)) == 1)=false:=beq_eq_false_iff_ne.mpr c6;have c6b1:((wrap64 (a2 - a1)) != 1)=true:=bne_iff_ne.mpr c6;by_cases c31:(wrap64 (a3 - a2))=1
  ·rw[if_pos c31] at H;have c31b0:((wrap64 (a3 - a2)) == 1)=true:=beq_iff_eq.mpr c31;have c31b1:((wrap64 (a3 - a2)) != 1)=false:=bne_eq_false_iff_eq.mpr c31;clear c31;have H':=aM H;clear H;go_enter Try.func58,Try.ntmps58
   go_wp2
   go_loopg [14,15] k (fun kq v14 v15 w'=>∃ (x14_1:Int) (x15_1:Int),v14=.int .i64 x14_1∧v15=.int .i64 x15_1∧Aside0 (Azz.l2 kq l0 a2 x14_1 x15_1 l4_0=some r)∧Aside0 (kq≤k)∧Aside0 (Kd.R (Kd.int .i64) 3 w' w0.heap.size (fun k_=>(P0_ k_∨w.heap.size≤k_)) u9000_ l0)∧Aside0 (Kept w w' (fun k_=>P0_ k_))∧Aside0 (Below w0.heap.size w0 w'))
   case atStart=>exact⟨(a1),(a2),sD,sD,H',⟨Nat.le_refl _⟩,⟨rX HO0.out⟩,⟨kK HK⟩,⟨pB⟩⟩
   case round =>
    clear H';try clear c1
    try clear p1
    try clear q1
    try clear hx1
    try clear c2
    try clear p2
    try clear q2
    try clear hx2
    try clear c3
    try clear c4
    try clear c6
    try clear c6b0
    try clear c6b1
    try clear p6
    try clear c7
    try clear c7b0
    try clear c9
    try clear c9b0
    try clear c10
    try clear c10b0
    try clear c11
    try clear c11b0
    try clear c12
    try clear c12b0
    try clear c14
    try clear c14b0
    try clear p17
    try clear q17
    try clear hx17
    try clear c19
    try clear c19b0
    try clear c21
    try clear c21b0
    try clear c22
    try clear c22b0
    try clear c23
    try clear c23b0
    try clear c24
    try clear c24b0
    try clear p25
    try clear q25
    try clear hx25
    try clear hf25
    try clear c26
    try clear p26
    try clear q26
    try clear hx26
    try clear hf26
    try clear c31
    try clear c31b0
    try clear c31b1
    try clear hx174_0
    try clear hx175_0
    try clear hx177_0
    try clear hx178_0
    try clear hx25_0
    try clear hx26_0
    try clear p1
    try clear p17
    try clear p174
    try clear p175
    try clear p177
    try clear p178
    try clear p2
    try clear p25
    try clear p26
    try clear p6
    try clear q1
    try clear q17
    try clear q174
    try clear q175
    try clear q177
    try clear q178
    try clear q25
    try clear q26
    obtain⟨x14_1,x15_1,rfl,rfl,HA,HK1,HO_0,HK,HB⟩:=hrel;cases gk with
    | zero=>exact absurd HA.out (by simp [Azz.l2])
    | succ k1 =>
     have H:=HA.out;clear HA;simp only[Azz.l2] at H;by_cases c32:x14_1 < x15_1
     ·rw[if_pos c32] at H;have c32b0:decide (x14_1 < x15_1)=true:=dE c32;clear c32;by_cases c33:0≤a2
      ·rw[if_pos c33] at H;have c33b0:decide (0≤a2)=true:=dE c33;clear c33;by_cases c34:a2 < (l0.length:Int)
       ·rw[if_pos c34] at H;have c34b0:decide (a2 < (l0.length:Int))=true:=dE c34;clear c34;obtain⟨ji35,hji35⟩:∃ j_:Int,(wrap64 ((IntKind.u64.wrap (wrap64 (x14_1+x15_1))) / 2))=j_:=⟨_,rfl⟩;replace H:(if 0≤(ji35) then(if(ji35) < (l0.length:Int) then((Czj.f (rd l0 a2) (rd l0 (ji35)) l4_0).bind fun t183=>(if t183 < 0 then(Azz.l2 k1 l0 a2 x14_1 ji35 l4_0) else(Azz.l2 k1 l0 a2 (wrap64 ((ji35)+1)) x15_1 l4_0))) else(none)) else(none))=some r:=by first|(rw[hji35] at H;exact H)|(simp only[hji35] at H ⊢;exact H)
        have hji35w:(IntKind.i64.wrap ((IntKind.u64.wrap (wrap64 (x14_1+x15_1))) / 2))=ji35:=(i64_w _).trans hji35;by_cases c36:0≤(ji35)
        ·rw[if_pos c36] at H;have c36b0:decide (0≤(ji35))=true:=dE c36;clear c36;by_cases c37:(ji35) < (l0.length:Int)
         ·rw[if_pos c37] at H;have c37b0:decide ((ji35) < (l0.length:Int))=true:=dE c37;clear c37;replace H:=bS H;obtain⟨t183,A380,H⟩:=H;(try dsimp only at H);have A38:=aM A380;clear A380;by_cases c39:t183 < 0
          ·rw[if_pos c39] at H;have c39b0:decide (t183 < 0)=true:=dE c39;clear c39;have H':=aM H;clear H;try go_wp2
           have n0_:=aM (Kd.R_drew HO_0.out);have n1_:=aM (Kept.drew HK.out);have n2_:=aM (below_drew1 HB.out);clear HO_0;clear HK;clear HB;have HO_0:=n0_;have HK:=n1_;have HB:=n2_;clear n0_ n1_ n2_;obtain⟨Ao41,co41,eo41⟩:=Kd.R_slice HO_0.out;(first|subst eo41|(injection eo41 with f1_ f2_ f3_;have f4_:=f1_.symm;have f5_:=f3_.symm;clear f1_ f2_ f3_;subst f4_;subst f5_))
           have p181:0≤(a2:Int):=oE aS
           have q181:a2 < (l0.length:Int):=oE aS
           obtain⟨ad181,e181,hx181_0⟩:=Kd.at_int (Kd.R_reads' HO_0.out).2.2 a2 p181 q181;cases e181
           replace p181:=eq_true p181;replace q181:=eq_true q181;have p182:0≤((ji35):Int):=oE aS
           have q182:(ji35) < (l0.length:Int):=oE aS
           obtain⟨ad182,e182,hx182_0⟩:=Kd.at_int (Kd.R_reads' HO_0.out).2.2 (ji35) p182 q182;obtain rfl:ad181=ad182:=(by injection e182)
           replace p182:=eq_true p182;replace q182:=eq_true q182;refine start_ (n:=12) (S:=fun w'=>w'.cell? (ad181.add (a2).toNat)=some (.int .i64 (rd l0 a2))∧w'.cell? (ad181.add ((ji35)).toNat)=some (.int .i64 (rd l0 (ji35)))) (ds:=[]) #[false,false,false,false,false,false,false,false,false,false,false,false] (by kernel_rfl) rfl rfl ⟨hx181_0,hx182_0⟩ (fun hHeld=>?_);refine with_tabW Azz.tab17 Azz.bits17 (fun HT_ HW_=>?_)
           generalize wr.drew=w40 at HO_0 HK HB hx181_0 hx182_0 hHeld ⊢;refine pU (i:=0) (N:=some 92) HT_ #[true,false,false,false,false,false,false,false,false,false,false,false] ?_;refine pU (i:=1) (N:=some 93) HT_ #[true,true,false,false,false,false,false,false,false,false,false,false] ?_;refine pU (i:=2) (N:=some 94) HT_ #[true,true,true,false,false,false,false,false,false,false,false,false] ?_;refine pU (i:=3) (N:=some 95) HT_ #[true,true,true,true,false,false,false,false,false,false,false,false] ?_;refine pU (i:=5) (N:=some 97) HT_ #[true,true,true,true,false,true,false,false,false,false,false,false] ?_;refine pU (i:=6) (N:=some 98) HT_ #[true,true,true,true,false,true,true,false,false,false,false,false] ?_;refine pU (i:=7) (N:=some 99) HT_ #[true,true,true,true,false,true,true,true,false,false,false,false] ?_;refine take_ (i:=4) (N:=some 96) (v:=?_) (a':=?_) #[true,true,true,true,true,true,true,true,false,false,false,false] rfl rfl (take_ofW HT_.out HW_.out (by kernel_rfl)) (fun _ _ _ h=>h) (Or.inl ⟨by rfl,?_⟩) hHeld ?_ ?_
           rotate_left
           ·rintro w' ⟨s0,s1⟩;go_simp
            with_reducible rfl
           rotate_left
           ·simp only[Act.put,sA,sZ,sC,i64_w,i32_w];rfl
           refine take_ (i:=8) (N:=some 100) (v:=?_) (a':=?_) #[true,true,true,true,true,true,true,true,true,false,false,false] rfl rfl (take_ofW HT_.out HW_.out (by kernel_rfl)) (fun _ _ _ h=>h) (Or.inl ⟨by rfl,?_⟩) hHeld ?_ ?_
           rotate_left
           ·rintro w' ⟨s0,s1⟩;go_simp
            with_reducible rfl
           rotate_left
           ·simp only[Act.put,sA,sZ,sC,i64_w,i32_w];rfl
           refine one_ (i:=9) (N:=some 101) #[true,true,true,true,true,true,true,true,true,true,false,false] rfl rfl (one_of HT_.out (by kernel_rfl)) (by decide) (fun K hK=>?_)
           refine goesv_ Try.func26 (by kernel_rfl) rfl #[.int .i64 (rd l0 a2),.int .i64 (rd l0 (ji35)),.pointer A4_0] (by rfl) rfl rfl (by(try simp only[List.map_toArray,List.map_cons,List.map_nil]);first|done|(simp only[hji35];rfl)|rfl|(simp only[List.length_drop,List.length_take];rfl)) ?_
           with_reducible refine(Czj.calls (rd l0 a2) (rd l0 (ji35)) _ c4_0 l4_0 t183 _ ?side1 ?side2 A38.out).mono ?_
           (case side1=>exact Kd.C_kept_now HR4_0.out (kK HK))
           (case side2=>exact HC4_0.out)
           rintro e w' ⟨rfl,⟨nd,rfl⟩⟩;refine⟨_,rfl,?_⟩;refine hK.out _ _ ⟨hHeld.1,hHeld.2⟩ (fun hHeld=>?_)
           clear hK K;refine norm_ (a':=?_) ?_ ?_;rotate_left
           ·show Act.put _ (some 101) _=_
            simp only[Act.put,sA,sZ,sC,i64_w,i32_w];rfl
           refine pU (i:=10) (N:=some 102) HT_ #[true,true,true,true,true,true,true,true,true,true,true,false] ?_;refine pU (i:=11) (N:=some 103) HT_ #[true,true,true,true,true,true,true,true,true,true,true,true] ?_;refine done_ (done_of HT_.out (by kernel_rfl)) ?_
           try go_wp2
           go_roundg k1
           case measure=>have:=HK1.out;omega
           case rel=>exact⟨(x14_1),(ji35),sD,(by first|rfl|(simp;done)|(simp only[← hji35] <;> (first|rfl|simp))|(simp [*];done)),H',⟨by have:=HK1.out;omega⟩,⟨rX HO_0.out⟩,⟨kK HK⟩,⟨pB⟩⟩
          ·rw[if_neg c39] at H;have c39b0:decide (t183 < 0)=false:=decide_eq_false c39;clear c39;have H':=aM H;clear H;try go_wp2
           have n0_:=aM (Kd.R_drew HO_0.out);have n1_:=aM (Kept.drew HK.out);have n2_:=aM (below_drew1 HB.out);clear HO_0;clear HK;clear HB;have HO_0:=n0_;have HK:=n1_;have HB:=n2_;clear n0_ n1_ n2_;obtain⟨Ao43,co43,eo43⟩:=Kd.R_slice HO_0.out;(first|subst eo43|(injection eo43 with f1_ f2_ f3_;have f4_:=f1_.symm;have f5_:=f3_.symm;clear f1_ f2_ f3_;subst f4_;subst f5_))
           have p181:0≤(a2:Int):=oE aS
           have q181:a2 < (l0.length:Int):=oE aS
           obtain⟨ad181,e181,hx181_0⟩:=Kd.at_int (Kd.R_reads' HO_0.out).2.2 a2 p181 q181;cases e181
           replace p181:=eq_true p181;replace q181:=eq_true q181;have p182:0≤((ji35):Int):=oE aS
           have q182:(ji35) < (l0.length:Int):=oE aS
           obtain⟨ad182,e182,hx182_0⟩:=Kd.at_int (Kd.R_reads' HO_0.out).2.2 (ji35) p182 q182;obtain rfl:ad181=ad182:=(by injection e182)
           replace p182:=eq_true p182;replace q182:=eq_true q182;refine start_ (n:=12) (S:=fun w'=>w'.cell? (ad181.add (a2).toNat)=some (.int .i64 (rd l0 a2))∧w'.cell? (ad181.add ((ji35)).toNat)=some (.int .i64 (rd l0 (ji35)))) (ds:=[]) #[false,false,false,false,false,false,false,false,false,false,false,false] (by kernel_rfl) rfl rfl ⟨hx181_0,hx182_0⟩ (fun hHeld=>?_);refine with_tabW Azz.tab17 Azz.bits17 (fun HT_ HW_=>?_)
           generalize wr.drew=w42 at HO_0 HK HB hx181_0 hx182_0 hHeld ⊢;refine pU (i:=0) (N:=some 92) HT_ #[true,false,false,false,false,false,false,false,false,false,false,false] ?_;refine pU (i:=1) (N:=some 93) HT_ #[true,true,false,false,false,false,false,false,false,false,false,false] ?_;refine pU (i:=2) (N:=some 94) HT_ #[true,true,true,false,false,false,false,false,false,false,false,false] ?_;refine pU (i:=3) (N:=some 95) HT_ #[true,true,true,true,false,false,false,false,false,false,false,false] ?_;refine pU (i:=5) (N:=some 97) HT_ #[true,true,true,true,false,true,false,false,false,false,false,false] ?_;refine pU (i:=6) (N:=some 98) HT_ #[true,true,true,true,false,true,true,false,false,false,false,false] ?_;refine pU (i:=7) (N:=some 99) HT_ #[true,true,true,true,false,true,true,true,false,false,false,false] ?_;refine take_ (i:=4) (N:=some 96) (v:=?_) (a':=?_) #[true,true,true,true,true,true,true,true,false,false,false,false] rfl rfl (take_ofW HT_.out HW_.out (by kernel_rfl)) (fun _ _ _ h=>h) (Or.inl ⟨by rfl,?_⟩) hHeld ?_ ?_
           rotate_left
           ·rintro w' ⟨s0,s1⟩;go_simp
            with_reducible rfl
           rotate_left
           ·simp only[Act.put,sA,sZ,sC,i64_w,i32_w];rfl
           refine take_ (i:=8) (N:=some 100) (v:=?_) (a':=?_) #[true,true,true,true,true,true,true,true,true,false,false,false] rfl rfl (take_ofW HT_.out HW_.out (by kernel_rfl)) (fun _ _ _ h=>h) (Or.inl ⟨by rfl,?_⟩) hHeld ?_ ?_
           rotate_left
           ·rintro w' ⟨s0,s1⟩;go_simp
            with_reducible rfl
           rotate_left
           ·simp only[Act.put,sA,sZ,sC,i64_w,i32_w];rfl
           refine one_ (i:=9) (N:=some 101) #[true,true,true,true,true,true,true,true,true,true,false,false] rfl rfl (one_of HT_.out (by kernel_rfl)) (by decide) (fun K hK=>?_)
           refine goesv_ Try.func26 (by kernel_rfl) rfl #[.int .i64 (rd l0 a2),.int .i64 (rd l0 (ji35)),.pointer A4_0] (by rfl) rfl rfl (by(try simp only[List.map_toArray,List.map_cons,List.map_nil]);first|done|(simp only[hji35];rfl)|rfl|(simp only[List.length_drop,List.length_take];rfl)) ?_
           with_reducible refine(Czj.calls (rd l0 a2) (rd l0 (ji35)) _ c4_0 l4_0 t183 _ ?side1 ?side2 A38.out).mono ?_
           (case side1=>exact Kd.C_kept_now HR4_0.out (kK HK))
           (case side2=>exact HC4_0.out)
           rintro e w' ⟨rfl,⟨nd,rfl⟩⟩;refine⟨_,rfl,?_⟩;refine hK.out _ _ ⟨hHeld.1,hHeld.2⟩ (fun hHeld=>?_)
           clear hK K;refine norm_ (a':=?_) ?_ ?_;rotate_left
           ·show Act.put _ (some 101) _=_
            simp only[Act.put,sA,sZ,sC,i64_w,i32_w];rfl
           refine pU (i:=10) (N:=some 102) HT_ #[true,true,true,true,true,true,true,true,true,true,true,false] ?_;refine pU (i:=11) (N:=some 103) HT_ #[true,true,true,true,true,true,true,true,true,true,true,true] ?_;refine done_ (done_of HT_.out (by kernel_rfl)) ?_
           try go_wp2
           go_roundg k1
           case measure=>have:=HK1.out;omega
           case rel=>exact⟨(wrap64 ((ji35)+1)),(x15_1),(by first|rfl|(simp;done)|(simp only[← hji35] <;> (first|rfl|simp))|(simp [*];done)),sD,H',⟨by have:=HK1.out;omega⟩,⟨rX HO_0.out⟩,⟨kK HK⟩,⟨pB⟩⟩
         ·rw[if_neg c37] at H;exact absurd H (by simp)
        ·rw[if_neg c36] at H;exact absurd H (by simp)
       ·rw[if_neg c34] at H;exact absurd H (by simp)
      ·rw[if_neg c33] at H;exact absurd H (by simp)
     ·rw[if_neg c32] at H;have c32b0:decide (x14_1 < x15_1)=false:=decide_eq_false c32;clear c32;have H':=aM H;clear H;go_wp2
      go_loopg [17] k1 (fun kq v17 w'=>∃ (x0_2:List Int) (x17_2:Int),v17=.int .i64 x17_2∧Aside0 (Azz.l3 kq x0_2 x14_1 x17_2=some r)∧Aside0 (kq≤k1)∧Aside0 (Kd.R (Kd.int .i64) 3 w' w0.heap.size (fun k_=>(P0_ k_∨w.heap.size≤k_)) u9000_ x0_2)∧Aside0 (Kept w w' (fun k_=>P0_ k_))∧Aside0 (Below w0.heap.size w0 w'))
      case atStart=>exact⟨(l0),(a2),sD,H',⟨Nat.le_refl _⟩,⟨rX HO_0.out⟩,⟨kK HK⟩,⟨pB⟩⟩
      case round =>
       clear H';try clear c1
       try clear p1
       try clear q1
       try clear hx1
       try clear c2
       try clear p2
       try clear q2
       try clear hx2
       try clear c3
       try clear c4
       try clear c6
       try clear c6b0
       try clear c6b1
       try clear p6
       try clear c7
       try clear c7b0
       try clear c9
       try clear c9b0
       try clear c10
       try clear c10b0
       try clear c11
       try clear c11b0
       try clear c12
       try clear c12b0
       try clear c14
       try clear c14b0
       try clear p17
       try clear q17
       try clear hx17
       try clear p18
       try clear q18
       try clear hx18
       try clear c19
       try clear c19b0
       try clear c21
       try clear c21b0
       try clear c22
       try clear c22b0
       try clear c23
       try clear c23b0
       try clear c24
       try clear c24b0
       try clear p25
       try clear q25
       try clear hx25
       try clear hf25
       try clear c26
       try clear p26
       try clear q26
       try clear hx26
       try clear hf26
       try clear c31
       try clear c31b0
       try clear c31b1
       try clear c32
       try clear c32b0
       try clear c33
       try clear c33b0
       try clear c34
       try clear c34b0
       try clear c36
       try clear c36b0
       try clear c37
       try clear c37b0
       try clear c39
       try clear c39b0
       try clear hx174_0
       try clear hx175_0
       try clear hx177_0
       try clear hx178_0
       try clear hx181_0
       try clear hx182_0
       try clear hx25_0
       try clear hx26_0
       try clear p1
       try clear p17
       try clear p174
       try clear p175
       try clear p177
       try clear p178
       try clear p181
       try clear p182
       try clear p2
       try clear p25
       try clear p26
       try clear p6
       try clear q1
       try clear q17
       try clear q174
       try clear q175
       try clear q177
       try clear q178
       try clear q181
       try clear q182
       try clear q2
       try clear q25
       try clear q26
       obtain⟨x0_2,x17_2,rfl,HA,HK2,HO_0,HK,HB⟩:=hrel;cases gk with
       | zero=>exact absurd HA.out (by simp [Azz.l3])
       | succ k2 =>
        have H:=HA.out;clear HA;simp only[Azz.l3] at H;by_cases c44:x17_2 > x14_1
        ·rw[if_pos c44] at H;have c44b0:decide (x14_1 < x17_2)=true:=dE c44;clear c44;obtain⟨ji45,hji45⟩:∃ j_:Int,(wrap64 (x17_2 - 1))=j_:=⟨_,rfl⟩;replace H:(if 0≤(ji45) then(if(ji45) < (x0_2.length:Int) then(if 0≤x17_2 then(if x17_2 < (x0_2.length:Int) then(Azz.l3 k2 ((x0_2.set (x17_2:Int).toNat (rd x0_2 (ji45))).set ((ji45):Int).toNat (rd x0_2 x17_2)) x14_1 ji45) else(none)) else(none)) else(none)) else(none))=some r:=by first|(rw[hji45] at H;exact H)|(simp only[hji45] at H ⊢;exact H)
         have hji45w:(IntKind.i64.wrap (x17_2 - 1))=ji45:=(i64_w _).trans hji45;by_cases c46:0≤(ji45)
         ·rw[if_pos c46] at H;have c46b0:decide (0≤(ji45))=true:=dE c46;clear c46;by_cases c47:(ji45) < (x0_2.length:Int)
          ·rw[if_pos c47] at H;have c47b0:decide ((ji45) < (x0_2.length:Int))=true:=dE c47;clear c47;by_cases c48:0≤x17_2
           ·rw[if_pos c48] at H;have c48b0:decide (0≤x17_2)=true:=dE c48;clear c48;by_cases c49:x17_2 < (x0_2.length:Int)
            ·rw[if_pos c49] at H;have c49b0:decide (x17_2 < (x0_2.length:Int))=true:=dE c49;clear c49;obtain⟨y186,hy186⟩:∃ y_:List Int,y_=(x0_2.set (x17_2:Int).toNat (rd x0_2 (ji45))):=⟨_,rfl⟩;replace H:(Azz.l3 k2 (y186.set ((ji45):Int).toNat (rd x0_2 x17_2)) x14_1 ji45)=some r:=by first|(rw[hy186];with_reducible exact H)|(have H2_:=(Option.bind_some _ _).symm.trans H;rw[hy186];with_reducible exact H2_)|(have H2_:=(Option.bind_some _ _).symm.trans H;with_reducible exact H2_)|with_reducible exact H|(rw[hy186];exact H)|exact H
             have Ny186:=aM hy186;clear hy186;obtain⟨y187,hy187⟩:∃ y_:List Int,y_=(y186.set ((ji45):Int).toNat (rd x0_2 x17_2)):=⟨_,rfl⟩;replace H:(Azz.l3 k2 y187 x14_1 ji45)=some r:=by first|(rw[hy187];with_reducible exact H)|(have H2_:=(Option.bind_some _ _).symm.trans H;rw[hy187];with_reducible exact H2_)|(have H2_:=(Option.bind_some _ _).symm.trans H;with_reducible exact H2_)|with_reducible exact H|(rw[hy187];exact H)|exact H
             have Ny187:=aM hy187;clear hy187;have H':=aM H;clear H;try go_wp2
             have n0_:=aM (Kd.R_drew HO_0.out);have n1_:=aM (Kept.drew HK.out);have n2_:=aM (below_drew1 HB.out);clear HO_0;clear HK;clear HB;have HO_0:=n0_;have HK:=n1_;have HB:=n2_;clear n0_ n1_ n2_;obtain⟨Ao53,co53,eo53⟩:=Kd.R_slice HO_0.out;(first|subst eo53|(injection eo53 with f1_ f2_ f3_;have f4_:=f1_.symm;have f5_:=f3_.symm;clear f1_ f2_ f3_;subst f4_;subst f5_))
             have p184:0≤((ji45):Int):=oE aS
             have q184:(ji45) < (x0_2.length:Int):=oE aS
             obtain⟨ad184,e184,hx184_0⟩:=Kd.at_int (Kd.R_reads' HO_0.out).2.2 (ji45) p184 q184;cases e184
             replace p184:=eq_true p184;replace q184:=eq_true q184;have p185:0≤(x17_2:Int):=oE aS
             have q185:x17_2 < (x0_2.length:Int):=oE aS
             obtain⟨ad185,e185,hx185_0⟩:=Kd.at_int (Kd.R_reads' HO_0.out).2.2 x17_2 p185 q185;obtain rfl:ad184=ad185:=(by injection e185)
             replace p185:=eq_true p185;replace q185:=eq_true q185;have p50:0≤(x17_2:Int):=oE aS
             have q50:(x17_2:Int) < ((x0_2.length:Int):Int):=oE aS
             obtain⟨go50,co50,eo50,gb50,gl50,cl50,HG50⟩:=Kd.R_form HO_0.out (by omega)
             (first|cases eo50|(injection eo50 with ea_ en_ ec_;(first|subst ea_|(injection ea_ with ea_;subst ea_));subst ec_;clear en_))
             have GB50:=aM gb50;have GG50:=aM HG50;clear gb50 gl50 HG50;have HMgo50:=aM (show(P0_ go50∨w.heap.size≤go50) from(HO_0.out.1 _ rfl))
             (first|simp only[add_plain] at hx184_0|skip)
             (first|simp only[add_plain] at hx185_0|skip)
             obtain⟨hx50_0,hf50_0⟩:=Kd.R_celln 0 HO_0.out (x17_2:Int) p50 q50;replace p50:=eq_true p50;replace q50:=eq_true q50;have HP54:=Kd.R_putn HO_0.out (x17_2:Int) (rd x0_2 (ji45));rw[← Ny186.out] at HP54;have HQ54:=aM HP54;clear HP54;have p51:0≤((ji45):Int):=oE aS
             have q51:((ji45):Int) < ((x0_2.length:Int):Int):=oE aS
             obtain⟨hx51_0,hf51_0⟩:=Kd.R_celln 0 HQ54.out ((ji45):Int) p51 q51;replace p51:=eq_true p51;replace q51:=eq_true q51;have HP55:=Kd.R_putn HQ54.out ((ji45):Int) (rd x0_2 x17_2);rw[← Ny187.out] at HP55;have HQ55:=aM HP55;clear HP55;refine start_ (n:=18) (S:=fun w'=>w'.cell? ⟨go50,((ji45)).toNat,none⟩=some (.int .i64 (rd x0_2 (ji45)))∧w'.cell? ⟨go50,(x17_2).toNat,none⟩=some (.int .i64 (rd x0_2 x17_2))) (ds:=[15,17]) #[false,false,false,false,false,false,false,false,false,false,false,false,false,false,false,false,false,false] (by kernel_rfl) rfl rfl ⟨hx184_0,hx185_0⟩ (fun hHeld=>?_);refine with_tabW Azz.tab23 Azz.bits23 (fun HT_ HW_=>?_)
             generalize wr.drew=w52 at HO_0 HK HB GG50 HQ54 HQ55 hf50_0 hf51_0 hx184_0 hx185_0 hx50_0 hx51_0 hHeld ⊢;refine pU (i:=0) (N:=some 113) HT_ #[true,false,false,false,false,false,false,false,false,false,false,false,false,false,false,false,false,false] ?_;refine pU (i:=1) (N:=some 114) HT_ #[true,true,false,false,false,false,false,false,false,false,false,false,false,false,false,false,false,false] ?_;refine pU (i:=2) (N:=some 115) HT_ #[true,true,true,false,false,false,false,false,false,false,false,false,false,false,false,false,false,false] ?_;refine pU (i:=3) (N:=some 116) HT_ #[true,true,true,true,false,false,false,false,false,false,false,false,false,false,false,false,false,false] ?_;refine pU (i:=4) (N:=some 117) HT_ #[true,true,true,true,true,false,false,false,false,false,false,false,false,false,false,false,false,false] ?_;refine pU (i:=5) (N:=some 118) HT_ #[true,true,true,true,true,true,false,false,false,false,false,false,false,false,false,false,false,false] ?_;refine pU (i:=6) (N:=some 119) HT_ #[true,true,true,true,true,true,true,false,false,false,false,false,false,false,false,false,false,false] ?_;refine pU (i:=7) (N:=some 120) HT_ #[true,true,true,true,true,true,true,true,false,false,false,false,false,false,false,false,false,false] ?_;refine pU (i:=8) (N:=some 121) HT_ #[true,true,true,true,true,true,true,true,true,false,false,false,false,false,false,false,false,false] ?_;refine pU (i:=10) (N:=some 123) HT_ #[true,true,true,true,true,true,true,true,true,false,true,false,false,false,false,false,false,false] ?_;refine pU (i:=11) (N:=some 124) HT_ #[true,true,true,true,true,true,true,true,true,false,true,true,false,false,false,false,false,false] ?_;refine pU (i:=12) (N:=some 125) HT_ #[true,true,true,true,true,true,true,true,true,false,true,true,true,false,false,false,false,false] ?_;refine take_ (i:=9) (N:=some 122) (v:=?_) (a':=?_) #[true,true,true,true,true,true,true,true,true,true,true,true,true,false,false,false,false,false] rfl rfl (take_ofW HT_.out HW_.out (by kernel_rfl)) (fun _ _ _ h=>h) (Or.inl ⟨by rfl,?_⟩) hHeld ?_ ?_
             rotate_left
             ·rintro w' ⟨s0,s1⟩;go_simp
              with_reducible rfl
             rotate_left
             ·simp only[Act.put,sA,sZ,sC,i64_w,i32_w];rfl
             refine take_ (i:=13) (N:=some 126) (v:=?_) (a':=?_) #[true,true,true,true,true,true,true,true,true,true,true,true,true,true,false,false,false,false] rfl rfl (take_ofW HT_.out HW_.out (by kernel_rfl)) (fun _ _ _ h=>h) (Or.inl ⟨by rfl,?_⟩) hHeld ?_ ?_
             rotate_left
             ·rintro w' ⟨s0,s1⟩;go_simp
              with_reducible rfl
             rotate_left
             ·simp only[Act.put,sA,sZ,sC,i64_w,i32_w];rfl
             refine pU (i:=14) (N:=some 127) HT_ #[true,true,true,true,true,true,true,true,true,true,true,true,true,true,true,false,false,false] ?_;refine last_ (i:=15) (N:=none) #[true,true,true,true,true,true,true,true,true,true,true,true,true,true,true,true,false,false] rfl rfl (one_of HT_.out (by kernel_rfl)) (by decide) (fun K hK=>?_)
             refine skip_ (w1:=?_) (by rfl) rfl ?_ ?_
             rotate_left
             ·go_simp
              rfl
             refine hK.out _ _ ?_;clear hK K;refine pU (i:=16) (N:=some 128) HT_ #[true,true,true,true,true,true,true,true,true,true,true,true,true,true,true,true,true,false] ?_;refine last_ (i:=17) (N:=none) #[true,true,true,true,true,true,true,true,true,true,true,true,true,true,true,true,true,true] rfl rfl (one_of HT_.out (by kernel_rfl)) (by decide) (fun K hK=>?_)
             refine skip_ (w1:=?_) (by rfl) rfl ?_ ?_
             rotate_left
             ·go_simp
              rfl
             refine hK.out _ _ ?_;clear hK K;refine done_ (done_of HT_.out (by kernel_rfl)) ?_
             try go_wp2
             go_roundg k2
             case measure=>have:=HK1.out;have:=HK2.out;omega
             case rel=>exact⟨(y187),(ji45),(by first|rfl|(simp;done)|(simp only[← hji45] <;> (first|rfl|simp))|(simp [*];done)),H',⟨by have:=HK1.out;have:=HK2.out;omega⟩,⟨rX HQ55.out⟩,⟨by repeat(first|(with_reducible first|exact HK.out|apply Kept.alloc|apply Kept.drewN|apply Kept.drew|refine Kept.setCell ?_ HMgo50.out _|refine Kept.setCell ?_ HMgo50.out _)|exact HK.out)⟩,⟨pB⟩⟩
            ·rw[if_neg c49] at H;exact absurd H (by simp)
           ·rw[if_neg c48] at H;exact absurd H (by simp)
          ·rw[if_neg c47] at H;exact absurd H (by simp)
         ·rw[if_neg c46] at H;exact absurd H (by simp)
        ·rw[if_neg c44] at H;have c44b0:decide (x14_1 < x17_2)=false:=decide_eq_false c44;clear c44;obtain rfl:=Option.some.inj H;go_wp2
         first|go_end0|((try simp only[Exit.inBlock,Exit.then]);refine bodyPost_ret (results_none rfl _ _ _) rfl ?_)
         exact⟨eW,rX HO_0.out,pB,kK HK⟩
  ·rw[if_neg c31] at H;have c31b0:((wrap64 (a3 - a2)) == 1)=false:=beq_eq_false_iff_ne.mpr c31;have c31b1:((wrap64 (a3 - a2)) != 1)=true:=bne_iff_ne.mpr c31;have HC56:=aM H;clear H;go_enter Try.func58,Try.ntmps58
   go_upto_if 140 with (fail)
   go_cut [20,21] (fun v20 v21 wc=>∃ (kq:Nat) (x20_55:Int) (x21_55:Int),v20=.int .i64 x20_55∧v21=.int .i64 x21_55∧Aside0 (Azz.j4 kq l0 a1 a2 a3 (wrap64 ((IntKind.u64.wrap (wrap64 (a1+a3))) / 2)) (wrap64 ((wrap64 ((IntKind.u64.wrap (wrap64 (a1+a3))) / 2))+a2)) x20_55 x21_55 l4_0=some r)∧Aside0 (kq≤k)∧Aside0 (Kd.R (Kd.int .i64) 3 wc w0.heap.size (fun k_=>(P0_ k_∨w.heap.size≤k_)) u9000_ l0)∧Aside0 (Kept w wc (fun k_=>P0_ k_))∧Aside0 (Below w0.heap.size w0 wc))
   case first =>
    have H:=HC56.out;clear HC56;by_cases c57:a2 > (wrap64 ((IntKind.u64.wrap (wrap64 (a1+a3))) / 2))
    ·rw[if_pos c57] at H;have c57b0:decide ((wrap64 ((IntKind.u64.wrap (wrap64 (a1+a3))) / 2)) < a2)=true:=dE c57;have c57b0w:decide ((IntKind.i64.wrap ((IntKind.u64.wrap (IntKind.i64.wrap (a1+a3))) / 2)) < a2)=true:=by have h_:=c57b0;first|exact h_|(simp only[i64_w];exact h_)
     clear c57;(first|rw[c57b0]|(simp only[i64_w,i32_w];rw[c57b0])|skip)
     have H':=aM H;clear H;go_wp2
     go_meet
     case rel=>exact⟨_,(wrap64 ((wrap64 ((wrap64 ((IntKind.u64.wrap (wrap64 (a1+a3))) / 2))+a2)) - a3)),(wrap64 ((IntKind.u64.wrap (wrap64 (a1+a3))) / 2)),sD,sD,H',⟨by first|omega|exact Nat.le_refl _⟩,⟨rX HO0.out⟩,⟨kK HK⟩,⟨pB⟩⟩
    ·rw[if_neg c57] at H;have c57b0:decide ((wrap64 ((IntKind.u64.wrap (wrap64 (a1+a3))) / 2)) < a2)=false:=decide_eq_false c57;have c57b0w:decide ((IntKind.i64.wrap ((IntKind.u64.wrap (IntKind.i64.wrap (a1+a3))) / 2)) < a2)=false:=by have h_:=c57b0;first|exact h_|(simp only[i64_w];exact h_)
     clear c57;(first|rw[c57b0]|(simp only[i64_w,i32_w];rw[c57b0])|skip)
     have H':=aM H;clear H;go_wp2
     go_meet
     case rel=>exact⟨_,(a1),(a2),sD,sD,H',⟨by first|omega|exact Nat.le_refl _⟩,⟨rX HO0.out⟩,⟨kK HK⟩,⟨pB⟩⟩
   case rest=>as_aux_lemma =>
    clear HC56;try clear c1
    try clear p1
    try clear q1
    try clear hx1
    try clear c2
    try clear p2
    try clear q2
    try clear hx2
    try clear c3
    try clear c4
    try clear c5
    try clear p5
    try clear q5
    try clear hx5
    try clear hf5
    try clear c6
    try clear c6b0
    try clear c6b1
    try clear p6
    try clear c7
    try clear c7b0
    try clear c9
    try clear c9b0
    try clear c10
    try clear c10b0
    try clear c11
    try clear c11b0
    try clear c12
    try clear c12b0
    try clear c14
    try clear c14b0
    try clear p17
    try clear q17
    try clear hx17
    try clear p18
    try clear q18
    try clear hx18
    try clear c19
    try clear c19b0
    try clear c21
    try clear c21b0
    try clear c22
    try clear c22b0
    try clear c23
    try clear c23b0
    try clear c24
    try clear c24b0
    try clear p25
    try clear q25
    try clear hx25
    try clear hf25
    try clear c26
    try clear p26
    try clear q26
    try clear hx26
    try clear hf26
    try clear c31
    try clear c31b0
    try clear c31b1
    try clear c32
    try clear c32b0
    try clear c33
    try clear c33b0
    try clear c34
    try clear c34b0
    try clear c36
    try clear c36b0
    try clear c37
    try clear c37b0
    try clear c39
    try clear c39b0
    try clear c44
    try clear c44b0
    try clear c46
    try clear c46b0
    try clear c47
    try clear c47b0
    try clear c48
    try clear c48b0
    try clear c49
    try clear c49b0
    try clear p50
    try clear q50
    try clear hx50
    try clear hf50
    try clear p51
    try clear q51
    try clear hx51
    try clear hf51
    try clear c57
    try clear c57b0
    try clear hx174_0
    try clear hx175_0
    try clear hx177_0
    try clear hx178_0
    try clear hx181_0
    try clear hx182_0
    try clear hx184_0
    try clear hx185_0
    try clear hx25_0
    try clear hx26_0
    try clear hx50_0
    try clear hx51_0
    try clear p1
    try clear p17
    try clear p174
    try clear p175
    try clear p177
    try clear p178
    try clear p18
    try clear p181
    try clear p182
    try clear p184
    try clear p185
    try clear p2
    try clear p25
    try clear p26
    try clear p50
    try clear p51
    try clear p6
    try clear q1
    try clear q17
    try clear q174
    try clear q175
    try clear q177
    try clear q178
    try clear q18
    try clear q181
    try clear q182
    try clear q184
    try clear q185
    try clear q2
    try clear q25
    try clear q26
    try clear q50
    try clear q51
    obtain⟨kq,x20_55,x21_55,rfl,rfl,HA,HJ55,HO_0,HK,HB⟩:=hcut;cases kq with
    | zero=>exact absurd HA.out (by simp [Azz.j4])
    | succ kj55 =>
     have H:=HA.out;clear HA;simp only[Azz.j4] at H;have H':=aM H;clear H;go_wp2
     go_loopg [20,21] kj55 (fun kq v20 v21 w'=>∃ (x20_2:Int) (x21_2:Int),v20=.int .i64 x20_2∧v21=.int .i64 x21_2∧Aside0 (Azz.l4 kq l0 a1 a2 a3 (wrap64 ((IntKind.u64.wrap (wrap64 (a1+a3))) / 2)) (wrap64 ((wrap64 ((IntKind.u64.wrap (wrap64 (a1+a3))) / 2))+a2)) x20_2 x21_2 (wrap64 ((wrap64 ((wrap64 ((IntKind.u64.wrap (wrap64 (a1+a3))) / 2))+a2)) - 1)) l4_0=some r)∧Aside0 (kq≤kj55)∧Aside0 (Kd.R (Kd.int .i64) 3 w' w0.heap.size (fun k_=>(P0_ k_∨w.heap.size≤k_)) u9000_ l0)∧Aside0 (Kept w w' (fun k_=>P0_ k_))∧Aside0 (Below w0.heap.size w0 w'))
     case atStart=>exact⟨(x20_55),(x21_55),sD,sD,H',⟨Nat.le_refl _⟩,⟨rX HO_0.out⟩,⟨kK HK⟩,⟨pB⟩⟩
     case round =>
      clear H';try clear c1
      try clear p1
      try clear q1
      try clear hx1
      try clear c2
      try clear p2
      try clear q2
      try clear hx2
      try clear c3
      try clear c4
      try clear c5
      try clear p5
      try clear q5
      try clear hx5
      try clear hf5
      try clear c6
      try clear c6b0
      try clear c6b1
      try clear p6
      try clear c7
      try clear c7b0
      try clear c9
      try clear c9b0
      try clear c10
      try clear c10b0
      try clear c11
      try clear c11b0
      try clear c12
      try clear c12b0
      try clear c14
      try clear c14b0
      try clear p17
      try clear q17
      try clear hx17
      try clear p18
      try clear q18
      try clear hx18
      try clear c19
      try clear c19b0
      try clear c21
      try clear c21b0
      try clear c22
      try clear c22b0
      try clear c23
      try clear c23b0
      try clear c24
      try clear c24b0
      try clear p25
      try clear q25
      try clear hx25
      try clear hf25
      try clear c26
      try clear p26
      try clear q26
      try clear hx26
      try clear hf26
      try clear c31
      try clear c31b0
      try clear c31b1
      try clear c32
      try clear c32b0
      try clear c33
      try clear c33b0
      try clear c34
      try clear c34b0
      try clear c36
      try clear c36b0
      try clear c37
      try clear c37b0
      try clear c39
      try clear c39b0
      try clear c44
      try clear c44b0
      try clear c46
      try clear c46b0
      try clear c47
      try clear c47b0
      try clear c48
      try clear c48b0
      try clear c49
      try clear c49b0
      try clear p50
      try clear q50
      try clear hx50
      try clear hf50
      try clear p51
      try clear q51
      try clear hx51
      try clear hf51
      try clear c57
      try clear c57b0
      try clear hx174_0
      try clear hx175_0
      try clear hx177_0
      try clear hx178_0
      try clear hx181_0
      try clear hx182_0
      try clear hx184_0
      try clear hx185_0
      try clear hx25_0
      try clear hx26_0
      try clear hx50_0
      try clear hx51_0
      try clear p1
      try clear p17
      try clear p174
      try clear p175
      try clear p177
      try clear p178
      try clear p18
      try clear p181
      try clear p182
      try clear p184
      try clear p185
      try clear p2
      try clear p25
      try clear p26
      try clear p5
      try clear p50
      try clear p51
      try clear p6
      try clear q1
      try clear q17
      try clear q174
      try clear q175
      try clear q177
      try clear q178
      try clear q18
      try clear q181
      try clear q182
      try clear q184
      try clear q185
      try clear q2
      try clear q25
      try clear q26
      try clear q5
      try clear q50
      try clear q51
      obtain⟨x20_2,x21_2,rfl,rfl,HA,HK2,HO_0,HK,HB⟩:=hrel;cases gk with
      | zero=>exact absurd HA.out (by simp [Azz.l4])
      | succ k2 =>
       have H:=HA.out;clear HA;simp only[Azz.l4] at H;by_cases c58:x20_2 < x21_2
       ·rw[if_pos c58] at H;have c58b0:decide (x20_2 < x21_2)=true:=dE c58;clear c58;obtain⟨ji59,hji59⟩:∃ j_:Int,(wrap64 ((wrap64 ((wrap64 ((wrap64 ((IntKind.u64.wrap (wrap64 (a1+a3))) / 2))+a2)) - 1)) - (wrap64 ((IntKind.u64.wrap (wrap64 (x20_2+x21_2))) / 2))))=j_:=⟨_,rfl⟩;replace H:(if 0≤(ji59) then(if(ji59) < (l0.length:Int) then(if 0≤(wrap64 ((IntKind.u64.wrap (wrap64 (x20_2+x21_2))) / 2)) then(if(wrap64 ((IntKind.u64.wrap (wrap64 (x20_2+x21_2))) / 2)) < (l0.length:Int) then((Czj.f (rd l0 (ji59)) (rd l0 (wrap64 ((IntKind.u64.wrap (wrap64 (x20_2+x21_2))) / 2))) l4_0).bind fun t190=>(if t190 < 0 then(Azz.l4 k2 l0 a1 a2 a3 (wrap64 ((IntKind.u64.wrap (wrap64 (a1+a3))) / 2)) (wrap64 ((wrap64 ((IntKind.u64.wrap (wrap64 (a1+a3))) / 2))+a2)) x20_2 (wrap64 ((IntKind.u64.wrap (wrap64 (x20_2+x21_2))) / 2)) (wrap64 ((wrap64 ((wrap64 ((IntKind.u64.wrap (wrap64 (a1+a3))) / 2))+a2)) - 1)) l4_0) else(Azz.l4 k2 l0 a1 a2 a3 (wrap64 ((IntKind.u64.wrap (wrap64 (a1+a3))) / 2)) (wrap64 ((wrap64 ((IntKind.u64.wrap (wrap64 (a1+a3))) / 2))+a2)) (wrap64 ((wrap64 ((IntKind.u64.wrap (wrap64 (x20_2+x21_2))) / 2))+1)) x21_2 (wrap64 ((wrap64 ((wrap64 ((IntKind.u64.wrap (wrap64 (a1+a3))) / 2))+a2)) - 1)) l4_0))) else(none)) else(none)) else(none)) else(none))=some r:=by first|(rw[hji59] at H;exact H)|(simp only[hji59] at H ⊢;exact H)
        have hji59w:(IntKind.i64.wrap ((wrap64 ((wrap64 ((wrap64 ((IntKind.u64.wrap (wrap64 (a1+a3))) / 2))+a2)) - 1)) - (wrap64 ((IntKind.u64.wrap (wrap64 (x20_2+x21_2))) / 2))))=ji59:=(i64_w _).trans hji59;by_cases c60:0≤(ji59)
        ·rw[if_pos c60] at H;have c60b0:decide (0≤(ji59))=true:=dE c60;clear c60;by_cases c61:(ji59) < (l0.length:Int)
         ·rw[if_pos c61] at H;have c61b0:decide ((ji59) < (l0.length:Int))=true:=dE c61;clear c61;obtain⟨ji62,hji62⟩:∃ j_:Int,(wrap64 ((IntKind.u64.wrap (wrap64 (x20_2+x21_2))) / 2))=j_:=⟨_,rfl⟩;replace H:(if 0≤(ji62) then(if(ji62) < (l0.length:Int) then((Czj.f (rd l0 (ji59)) (rd l0 (ji62)) l4_0).bind fun t190=>(if t190 < 0 then(Azz.l4 k2 l0 a1 a2 a3 (wrap64 ((IntKind.u64.wrap (wrap64 (a1+a3))) / 2)) (wrap64 ((wrap64 ((IntKind.u64.wrap (wrap64 (a1+a3))) / 2))+a2)) x20_2 ji62 (wrap64 ((wrap64 ((wrap64 ((IntKind.u64.wrap (wrap64 (a1+a3))) / 2))+a2)) - 1)) l4_0) else(Azz.l4 k2 l0 a1 a2 a3 (wrap64 ((IntKind.u64.wrap (wrap64 (a1+a3))) / 2)) (wrap64 ((wrap64 ((IntKind.u64.wrap (wrap64 (a1+a3))) / 2))+a2)) (wrap64 ((ji62)+1)) x21_2 (wrap64 ((wrap64 ((wrap64 ((IntKind.u64.wrap (wrap64 (a1+a3))) / 2))+a2)) - 1)) l4_0))) else(none)) else(none))=some r:=by first|(rw[hji62] at H;exact H)|(simp only[hji62] at H ⊢;exact H)
          have hji62w:(IntKind.i64.wrap ((IntKind.u64.wrap (wrap64 (x20_2+x21_2))) / 2))=ji62:=(i64_w _).trans hji62;(try rw[hji62] at hji59)
          (try rw[hji62] at hji59w)
          by_cases c63:0≤(ji62)
          ·rw[if_pos c63] at H;have c63b0:decide (0≤(ji62))=true:=dE c63;clear c63;by_cases c64:(ji62) < (l0.length:Int)
           ·rw[if_pos c64] at H;have c64b0:decide ((ji62) < (l0.length:Int))=true:=dE c64;clear c64;replace H:=bS H;obtain⟨t190,A650,H⟩:=H;(try dsimp only at H);have A65:=aM A650;clear A650;by_cases c66:t190 < 0
            ·rw[if_pos c66] at H;have c66b0:decide (t190 < 0)=true:=dE c66;clear c66;have H':=aM H;clear H;try go_wp2
             have n0_:=aM (Kd.R_drew HO_0.out);have n1_:=aM (Kept.drew HK.out);have n2_:=aM (below_drew1 HB.out);clear HO_0;clear HK;clear HB;have HO_0:=n0_;have HK:=n1_;have HB:=n2_;clear n0_ n1_ n2_;obtain⟨Ao68,co68,eo68⟩:=Kd.R_slice HO_0.out;(first|subst eo68|(injection eo68 with f1_ f2_ f3_;have f4_:=f1_.symm;have f5_:=f3_.symm;clear f1_ f2_ f3_;subst f4_;subst f5_))
             have p188:0≤((ji59):Int):=oE aS
             have q188:(ji59) < (l0.length:Int):=oE aS
             obtain⟨ad188,e188,hx188_0⟩:=Kd.at_int (Kd.R_reads' HO_0.out).2.2 (ji59) p188 q188;cases e188
             replace p188:=eq_true p188;replace q188:=eq_true q188;have p189:0≤((ji62):Int):=oE aS
             have q189:(ji62) < (l0.length:Int):=oE aS
             obtain⟨ad189,e189,hx189_0⟩:=Kd.at_int (Kd.R_reads' HO_0.out).2.2 (ji62) p189 q189;obtain rfl:ad188=ad189:=(by injection e189)
             replace p189:=eq_true p189;replace q189:=eq_true q189;refine start_ (n:=14) (S:=fun w'=>w'.cell? (ad188.add ((ji59)).toNat)=some (.int .i64 (rd l0 (ji59)))∧w'.cell? (ad188.add ((ji62)).toNat)=some (.int .i64 (rd l0 (ji62)))) (ds:=[]) #[false,false,false,false,false,false,false,false,false,false,false,false,false,false] (by kernel_rfl) rfl rfl ⟨hx188_0,hx189_0⟩ (fun hHeld=>?_);refine with_tabW Azz.tab35 Azz.bits35 (fun HT_ HW_=>?_)
             generalize wr.drew=w67 at HO_0 HK HB hx188_0 hx189_0 hHeld ⊢;refine pU (i:=0) (N:=some 158) HT_ #[true,false,false,false,false,false,false,false,false,false,false,false,false,false] ?_;refine pU (i:=1) (N:=some 159) HT_ #[true,true,false,false,false,false,false,false,false,false,false,false,false,false] ?_;refine pU (i:=2) (N:=some 160) HT_ #[true,true,true,false,false,false,false,false,false,false,false,false,false,false] ?_;refine pU (i:=3) (N:=some 161) HT_ #[true,true,true,true,false,false,false,false,false,false,false,false,false,false] ?_;refine pU (i:=4) (N:=some 162) HT_ #[true,true,true,true,true,false,false,false,false,false,false,false,false,false] ?_;refine pU (i:=5) (N:=some 163) HT_ #[true,true,true,true,true,true,false,false,false,false,false,false,false,false] ?_;refine pU (i:=7) (N:=some 165) HT_ #[true,true,true,true,true,true,false,true,false,false,false,false,false,false] ?_;refine pU (i:=8) (N:=some 166) HT_ #[true,true,true,true,true,true,false,true,true,false,false,false,false,false] ?_;refine pU (i:=9) (N:=some 167) HT_ #[true,true,true,true,true,true,false,true,true,true,false,false,false,false] ?_;refine take_ (i:=6) (N:=some 164) (v:=?_) (a':=?_) #[true,true,true,true,true,true,true,true,true,true,false,false,false,false] rfl rfl (take_ofW HT_.out HW_.out (by kernel_rfl)) (fun _ _ _ h=>h) (Or.inl ⟨by rfl,?_⟩) hHeld ?_ ?_
             rotate_left
             ·rintro w' ⟨s0,s1⟩;go_simp
              with_reducible rfl
             rotate_left
             ·simp only[Act.put,sA,sZ,sC,i64_w,i32_w];rfl
             refine take_ (i:=10) (N:=some 168) (v:=?_) (a':=?_) #[true,true,true,true,true,true,true,true,true,true,true,false,false,false] rfl rfl (take_ofW HT_.out HW_.out (by kernel_rfl)) (fun _ _ _ h=>h) (Or.inl ⟨by rfl,?_⟩) hHeld ?_ ?_
             rotate_left
             ·rintro w' ⟨s0,s1⟩;go_simp
              with_reducible rfl
             rotate_left
             ·simp only[Act.put,sA,sZ,sC,i64_w,i32_w];rfl
             refine one_ (i:=11) (N:=some 169) #[true,true,true,true,true,true,true,true,true,true,true,true,false,false] rfl rfl (one_of HT_.out (by kernel_rfl)) (by decide) (fun K hK=>?_)
             refine goesv_ Try.func26 (by kernel_rfl) rfl #[.int .i64 (rd l0 (ji59)),.int .i64 (rd l0 (ji62)),.pointer A4_0] (by rfl) rfl rfl (by(try simp only[List.map_toArray,List.map_cons,List.map_nil]);first|done|(simp only[hji59,hji62];rfl)|rfl|(simp only[List.length_drop,List.length_take];rfl)) ?_
             with_reducible refine(Czj.calls (rd l0 (ji59)) (rd l0 (ji62)) _ c4_0 l4_0 t190 _ ?side1 ?side2 A65.out).mono ?_
             (case side1=>exact Kd.C_kept_now HR4_0.out (kK HK))
             (case side2=>exact HC4_0.out)
             rintro e w' ⟨rfl,⟨nd,rfl⟩⟩;refine⟨_,rfl,?_⟩;refine hK.out _ _ ⟨hHeld.1,hHeld.2⟩ (fun hHeld=>?_)
             clear hK K;refine norm_ (a':=?_) ?_ ?_;rotate_left
             ·show Act.put _ (some 169) _=_
              simp only[Act.put,sA,sZ,sC,i64_w,i32_w];rfl
             refine pU (i:=12) (N:=some 170) HT_ #[true,true,true,true,true,true,true,true,true,true,true,true,true,false] ?_;refine pU (i:=13) (N:=some 171) HT_ #[true,true,true,true,true,true,true,true,true,true,true,true,true,true] ?_;refine done_ (done_of HT_.out (by kernel_rfl)) ?_
             try go_wp2
             go_roundg k2
             case measure=>have:=HJ55.out;have:=HK2.out;omega
             case rel=>exact⟨(x20_2),(ji62),sD,(by first|rfl|(simp;done)|(simp only[← hji62] <;> (first|rfl|simp))|(simp [*];done)),H',⟨by have:=HJ55.out;have:=HK2.out;omega⟩,⟨rX HO_0.out⟩,⟨kK HK⟩,⟨pB⟩⟩
            ·rw[if_neg c66] at H;have c66b0:decide (t190 < 0)=false:=decide_eq_false c66;clear c66;have H':=aM H;clear H;try go_wp2
             have n0_:=aM (Kd.R_drew HO_0.out);have n1_:=aM (Kept.drew HK.out);have n2_:=aM (below_drew1 HB.out);clear HO_0;clear HK;clear HB;have HO_0:=n0_;have HK:=n1_;have HB:=n2_;clear n0_ n1_ n2_;obtain⟨Ao70,co70,eo70⟩:=Kd.R_slice HO_0.out;(first|subst eo70|(injection eo70 with f1_ f2_ f3_;have f4_:=f1_.symm;have f5_:=f3_.symm;clear f1_ f2_ f3_;subst f4_;subst f5_))
             have p188:0≤((ji59):Int):=oE aS
             have q188:(ji59) < (l0.length:Int):=oE aS
             obtain⟨ad188,e188,hx188_0⟩:=Kd.at_int (Kd.R_reads' HO_0.out).2.2 (ji59) p188 q188;cases e188
             replace p188:=eq_true p188;replace q188:=eq_true q188;have p189:0≤((ji62):Int):=oE aS
             have q189:(ji62) < (l0.length:Int):=oE aS
             obtain⟨ad189,e189,hx189_0⟩:=Kd.at_int (Kd.R_reads' HO_0.out).2.2 (ji62) p189 q189;obtain rfl:ad188=ad189:=(by injection e189)
             replace p189:=eq_true p189;replace q189:=eq_true q189;refine start_ (n:=14) (S:=fun w'=>w'.cell? (ad188.add ((ji59)).toNat)=some (.int .i64 (rd l0 (ji59)))∧w'.cell? (ad188.add ((ji62)).toNat)=some (.int .i64 (rd l0 (ji62)))) (ds:=[]) #[false,false,false,false,false,false,false,false,false,false,false,false,false,false] (by kernel_rfl) rfl rfl ⟨hx188_0,hx189_0⟩ (fun hHeld=>?_);refine with_tabW Azz.tab35 Azz.bits35 (fun HT_ HW_=>?_)
             generalize wr.drew=w69 at HO_0 HK HB hx188_0 hx189_0 hHeld ⊢;refine pU (i:=0) (N:=some 158) HT_ #[true,false,false,false,false,false,false,false,false,false,false,false,false,false] ?_;refine pU (i:=1) (N:=some 159) HT_ #[true,true,false,false,false,false,false,false,false,false,false,false,false,false] ?_;refine pU (i:=2) (N:=some 160) HT_ #[true,true,true,false,false,false,false,false,false,false,false,false,false,false] ?_;refine pU (i:=3) (N:=some 161) HT_ #[true,true,true,true,false,false,false,false,false,false,false,false,false,false] ?_;refine pU (i:=4) (N:=some 162) HT_ #[true,true,true,true,true,false,false,false,false,false,false,false,false,false] ?_;refine pU (i:=5) (N:=some 163) HT_ #[true,true,true,true,true,true,false,false,false,false,false,false,false,false] ?_;refine pU (i:=7) (N:=some 165) HT_ #[true,true,true,true,true,true,false,true,false,false,false,false,false,false] ?_;refine pU (i:=8) (N:=some 166) HT_ #[true,true,true,true,true,true,false,true,true,false,false,false,false,false] ?_;refine pU (i:=9) (N:=some 167) HT_ #[true,true,true,true,true,true,false,true,true,true,false,false,false,false] ?_;refine take_ (i:=6) (N:=some 164) (v:=?_) (a':=?_) #[true,true,true,true,true,true,true,true,true,true,false,false,false,false] rfl rfl (take_ofW HT_.out HW_.out (by kernel_rfl)) (fun _ _ _ h=>h) (Or.inl ⟨by rfl,?_⟩) hHeld ?_ ?_
             rotate_left
             ·rintro w' ⟨s0,s1⟩;go_simp
              with_reducible rfl
             rotate_left
             ·simp only[Act.put,sA,sZ,sC,i64_w,i32_w];rfl
             refine take_ (i:=10) (N:=some 168) (v:=?_) (a':=?_) #[true,true,true,true,true,true,true,true,true,true,true,false,false,false] rfl rfl (take_ofW HT_.out HW_.out (by kernel_rfl)) (fun _ _ _ h=>h) (Or.inl ⟨by rfl,?_⟩) hHeld ?_ ?_
             rotate_left
             ·rintro w' ⟨s0,s1⟩;go_simp
              with_reducible rfl
             rotate_left
             ·simp only[Act.put,sA,sZ,sC,i64_w,i32_w];rfl
             refine one_ (i:=11) (N:=some 169) #[true,true,true,true,true,true,true,true,true,true,true,true,false,false] rfl rfl (one_of HT_.out (by kernel_rfl)) (by decide) (fun K hK=>?_)
             refine goesv_ Try.func26 (by kernel_rfl) rfl #[.int .i64 (rd l0 (ji59)),.int .i64 (rd l0 (ji62)),.pointer A4_0] (by rfl) rfl rfl (by(try simp only[List.map_toArray,List.map_cons,List.map_nil]);first|done|(simp only[hji59,hji62];rfl)|rfl|(simp only[List.length_drop,List.length_take];rfl)) ?_
             with_reducible refine(Czj.calls (rd l0 (ji59)) (rd l0 (ji62)) _ c4_0 l4_0 t190 _ ?side1 ?side2 A65.out).mono ?_
             (case side1=>exact Kd.C_kept_now HR4_0.out (kK HK))
             (case side2=>exact HC4_0.out)
             rintro e w' ⟨rfl,⟨nd,rfl⟩⟩;refine⟨_,rfl,?_⟩;refine hK.out _ _ ⟨hHeld.1,hHeld.2⟩ (fun hHeld=>?_)
             clear hK K;refine norm_ (a':=?_) ?_ ?_;rotate_left
             ·show Act.put _ (some 169) _=_
              simp only[Act.put,sA,sZ,sC,i64_w,i32_w];rfl
             refine pU (i:=12) (N:=some 170) HT_ #[true,true,true,true,true,true,true,true,true,true,true,true,true,false] ?_;refine pU (i:=13) (N:=some 171) HT_ #[true,true,true,true,true,true,true,true,true,true,true,true,true,true] ?_;refine done_ (done_of HT_.out (by kernel_rfl)) ?_
             try go_wp2
             go_roundg k2
             case measure=>have:=HJ55.out;have:=HK2.out;omega
             case rel=>exact⟨(wrap64 ((ji62)+1)),(x21_2),(by first|rfl|(simp;done)|(simp only[← hji62] <;> (first|rfl|simp))|(simp [*];done)),sD,H',⟨by have:=HJ55.out;have:=HK2.out;omega⟩,⟨rX HO_0.out⟩,⟨kK HK⟩,⟨pB⟩⟩
           ·rw[if_neg c64] at H;exact absurd H (by simp)
          ·rw[if_neg c63] at H;exact absurd H (by simp)
         ·rw[if_neg c61] at H;exact absurd H (by simp)
        ·rw[if_neg c60] at H;exact absurd H (by simp)
       ·rw[if_neg c58] at H;have c58b0:decide (x20_2 < x21_2)=false:=decide_eq_false c58;clear c58;have HC71:=aM H;clear H;go_upto_region 39 with (fail)
        go_cut [185] (fun v185 wc=>∃ (kq:Nat) (x185_70:Bool),v185=.bool x185_70∧Aside0 (Azz.j6 kq l0 a1 a2 a3 (wrap64 ((IntKind.u64.wrap (wrap64 (a1+a3))) / 2)) x20_2 (wrap64 ((wrap64 ((wrap64 ((IntKind.u64.wrap (wrap64 (a1+a3))) / 2))+a2)) - x20_2)) x185_70 l4_0=some r)∧Aside0 (kq≤k2)∧Aside0 (Kd.R (Kd.int .i64) 3 wc w0.heap.size (fun k_=>(P0_ k_∨w.heap.size≤k_)) u9000_ l0)∧Aside0 (Kept w wc (fun k_=>P0_ k_))∧Aside0 (Below w0.heap.size w0 wc))
        case first =>
         have H:=HC71.out;clear HC71;by_cases c72:x20_2 < a2
         ·rw[if_pos c72] at H;have c72b0:decide (x20_2 < a2)=true:=dE c72;clear c72;(first|rw[c72b0]|(simp only[i64_w,i32_w];rw[c72b0])|skip)
          have H':=aM H;clear H;go_wp2
          go_meet
          case rel=>exact⟨_,(decide (a2 < (wrap64 ((wrap64 ((wrap64 ((IntKind.u64.wrap (wrap64 (a1+a3))) / 2))+a2)) - x20_2)))),sD,H',⟨by have:=HJ55.out;have:=HK2.out;first|omega|exact Nat.le_refl _⟩,⟨rX HO_0.out⟩,⟨kK HK⟩,⟨pB⟩⟩
         ·rw[if_neg c72] at H;have c72b0:decide (x20_2 < a2)=false:=decide_eq_false c72;clear c72;(first|rw[c72b0]|(simp only[i64_w,i32_w];rw[c72b0])|skip)
          have H':=aM H;clear H;go_wp2
          go_meet
          case rel=>exact⟨_,(false),sD,H',⟨by have:=HJ55.out;have:=HK2.out;first|omega|exact Nat.le_refl _⟩,⟨rX HO_0.out⟩,⟨kK HK⟩,⟨pB⟩⟩
        case rest=>as_aux_lemma =>
         clear HC71;try clear c1
         try clear p1
         try clear q1
         try clear hx1
         try clear c2
         try clear p2
         try clear q2
         try clear hx2
         try clear c3
         try clear c4
         try clear c5
         try clear p5
         try clear q5
         try clear hx5
         try clear hf5
         try clear c6
         try clear c6b0
         try clear c6b1
         try clear p6
         try clear c7
         try clear c7b0
         try clear c9
         try clear c9b0
         try clear c10
         try clear c10b0
         try clear c11
         try clear c11b0
         try clear c12
         try clear c12b0
         try clear c14
         try clear c14b0
         try clear p17
         try clear q17
         try clear hx17
         try clear p18
         try clear q18
         try clear hx18
         try clear c19
         try clear c19b0
         try clear c21
         try clear c21b0
         try clear c22
         try clear c22b0
         try clear c23
         try clear c23b0
         try clear c24
         try clear c24b0
         try clear p25
         try clear q25
         try clear hx25
         try clear hf25
         try clear c26
         try clear p26
         try clear q26
         try clear hx26
         try clear hf26
         try clear c31
         try clear c31b0
         try clear c31b1
         try clear c32
         try clear c32b0
         try clear c33
         try clear c33b0
         try clear c34
         try clear c34b0
         try clear c36
         try clear c36b0
         try clear c37
         try clear c37b0
         try clear c39
         try clear c39b0
         try clear c44
         try clear c44b0
         try clear c46
         try clear c46b0
         try clear c47
         try clear c47b0
         try clear c48
         try clear c48b0
         try clear c49
         try clear c49b0
         try clear p50
         try clear q50
         try clear hx50
         try clear hf50
         try clear p51
         try clear q51
         try clear hx51
         try clear hf51
         try clear c57
         try clear c57b0
         try clear c58
         try clear c58b0
         try clear c60
         try clear c60b0
         try clear c61
         try clear c61b0
         try clear c63
         try clear c63b0
         try clear c64
         try clear c64b0
         try clear p64
         try clear c66
         try clear c66b0
         try clear c72
         try clear c72b0
         try clear hx174_0
         try clear hx175_0
         try clear hx177_0
         try clear hx178_0
         try clear hx181_0
         try clear hx182_0
         try clear hx184_0
         try clear hx185_0
         try clear hx188_0
         try clear hx189_0
         try clear hx25_0
         try clear hx26_0
         try clear hx50_0
         try clear hx51_0
         try clear p1
         try clear p17
         try clear p174
         try clear p175
         try clear p177
         try clear p178
         try clear p18
         try clear p181
         try clear p182
         try clear p184
         try clear p185
         try clear p188
         try clear p189
         try clear p2
         try clear p25
         try clear p26
         try clear p5
         try clear p50
         try clear p51
         try clear p6
         try clear q1
         try clear q17
         try clear q174
         try clear q175
         try clear q177
         try clear q178
         try clear q18
         try clear q181
         try clear q182
         try clear q184
         try clear q185
         try clear q188
         try clear q189
         try clear q2
         try clear q25
         try clear q26
         try clear q5
         try clear q50
         try clear q51
         obtain⟨kq,x185_70,rfl,HA,HJ70,HO_0,HK,HB⟩:=hcut;cases kq with
         | zero=>exact absurd HA.out (by simp [Azz.j6])
         | succ kj70 =>
          have H:=HA.out;clear HA;simp only[Azz.j6] at H;have HC73:=aM H;clear H;go_upto_if 185 with (fail)
          go_cut [] (fun wc=>∃ (kq:Nat) (x0_72:List Int),Aside0 (Azz.j7 kq x0_72 a1 a3 (wrap64 ((IntKind.u64.wrap (wrap64 (a1+a3))) / 2)) x20_2 (wrap64 ((wrap64 ((wrap64 ((IntKind.u64.wrap (wrap64 (a1+a3))) / 2))+a2)) - x20_2)) l4_0=some r)∧Aside0 (kq≤kj70)∧Aside0 (Kd.R (Kd.int .i64) 3 wc w0.heap.size (fun k_=>(P0_ k_∨w.heap.size≤k_)) u9000_ x0_72)∧Aside0 (Kept w wc (fun k_=>P0_ k_))∧Aside0 (Below w0.heap.size w0 wc))
          case first =>
           have H:=HC73.out;clear HC73;by_cases c74:x185_70=true
           ·subst c74;rw[if_pos rfl] at H;replace H:=bS H;obtain⟨t191,A750,H⟩:=H;(try dsimp only at H);have A75:=aM A750;clear A750;have H':=aM H;clear H;obtain⟨Ao76,co76,eo76⟩:=Kd.R_slice HO_0.out;subst eo76;go_wp2_with (first|((with_reducible refine gate_callee (f:=68) rfl ?_);refine goesL_ (some 191) rfl rfl Try.func68 (by kernel_rfl) rfl #[.slice Ao76 l0.length co76,.int .i64 x20_2,.int .i64 a2,.int .i64 (wrap64 ((wrap64 ((wrap64 ((IntKind.u64.wrap (wrap64 (a1+a3))) / 2))+a2)) - x20_2)),.func (.func 26) #[] #[.pointer A4_0]] rfl mA ?_;(with_reducible refine(Azk.calls kj70 (fun k_=>some k_=(.slice Ao76 l0.length co76:Value).ownBlock) (.slice Ao76 l0.length co76) l0 x20_2 a2 (wrap64 ((wrap64 ((wrap64 ((IntKind.u64.wrap (wrap64 (a1+a3))) / 2))+a2)) - x20_2)) _ c4_0 l4_0 t191 w0 _ ?side1 ?side2 ?side3 ?side4 A75.out).mono ?_);(case side1=>repeat(first|(with_reducible first|exact HB.out|apply below_alloc|apply pw_below_drewN|apply below_drew1)|exact HB.out));(case side2=>exact Kd.R_tight rfl HO_0.out);(case side3=>exact Kd.C_kept_call HR4_0.out (kK HK) (fun k_ hs_=>(fun e_=>(HO_0.out.1 k_ e_.symm)) hs_));(case side4=>exact HC4_0.out);rintro e w77 ⟨rfl,hy0,hb,hkp⟩;refine⟨_,rfl,?_⟩;replace HK:=aM (Kept.then_ (S:=(fun k_=>P0_ k_)) (kK HK) hkp (fun k_ hs_=>(fun e_=>(HO_0.out.1 k_ e_.symm)) hs_));replace HO_0:=aM (Kd.R_reok rfl hy0 (fun k_ e_=>HO_0.out.1 k_ e_));replace HB:=aM (hb);(try clear hb);(try clear hkp);(try clear hy0)))
            go_meet
            case rel=>exact⟨_,(t191),H',⟨by have:=HJ55.out;have:=HK2.out;have:=HJ70.out;first|omega|exact Nat.le_refl _⟩,⟨rX HO_0.out⟩,⟨kK HK⟩,⟨pB⟩⟩
           ·replace c74:=Bool.eq_false_iff.mpr c74;subst c74;rw[if_neg (show ¬ (false=true) by decide)] at H
            have H':=aM H;clear H;go_wp2
            go_meet
            case rel=>exact⟨_,(l0),H',⟨by have:=HJ55.out;have:=HK2.out;have:=HJ70.out;first|omega|exact Nat.le_refl _⟩,⟨rX HO_0.out⟩,⟨kK HK⟩,⟨pB⟩⟩
          case rest=>as_aux_lemma =>
           clear HC73;try clear c1
           try clear p1
           try clear q1
           try clear hx1
           try clear c2
           try clear p2
           try clear q2
           try clear hx2
           try clear c3
           try clear c4
           try clear c5
           try clear p5
           try clear q5
           try clear hx5
           try clear hf5
           try clear c6
           try clear c6b0
           try clear c6b1
           try clear p6
           try clear c7
           try clear c7b0
           try clear c9
           try clear c9b0
           try clear c10
           try clear c10b0
           try clear c11
           try clear c11b0
           try clear c12
           try clear c12b0
           try clear c14
           try clear c14b0
           try clear p17
           try clear q17
           try clear hx17
           try clear p18
           try clear q18
           try clear hx18
           try clear c19
           try clear c19b0
           try clear c21
           try clear c21b0
           try clear c22
           try clear c22b0
           try clear c23
           try clear c23b0
           try clear c24
           try clear c24b0
           try clear p25
           try clear q25
           try clear hx25
           try clear hf25
           try clear c26
           try clear p26
           try clear q26
           try clear hx26
           try clear hf26
           try clear c31
           try clear c31b0
           try clear c31b1
           try clear c32
           try clear c32b0
           try clear c33
           try clear c33b0
           try clear c34
           try clear c34b0
           try clear c36
           try clear c36b0
           try clear c37
           try clear c37b0
           try clear c39
           try clear c39b0
           try clear c44
           try clear c44b0
           try clear c46
           try clear c46b0
           try clear c47
           try clear c47b0
           try clear c48
           try clear c48b0
           try clear c49
           try clear c49b0
           try clear p50
           try clear q50
           try clear hx50
           try clear hf50
           try clear p51
           try clear q51
           try clear hx51
           try clear hf51
           try clear c57
           try clear c57b0
           try clear c58
           try clear c58b0
           try clear c60
           try clear c60b0
           try clear c61
           try clear c61b0
           try clear c63
           try clear c63b0
           try clear c64
           try clear c64b0
           try clear p64
           try clear c66
           try clear c66b0
           try clear c72
           try clear c72b0
           try clear c74
           try clear hx174_0
           try clear hx175_0
           try clear hx177_0
           try clear hx178_0
           try clear hx181_0
           try clear hx182_0
           try clear hx184_0
           try clear hx185_0
           try clear hx188_0
           try clear hx189_0
           try clear hx25_0
           try clear hx26_0
           try clear hx50_0
           try clear hx51_0
           try clear p1
           try clear p17
           try clear p174
           try clear p175
           try clear p177
           try clear p178
           try clear p18
           try clear p181
           try clear p182
           try clear p184
           try clear p185
           try clear p188
           try clear p189
           try clear p2
           try clear p25
           try clear p26
           try clear p5
           try clear p50
           try clear p51
           try clear p6
           try clear p64
           try clear q1
           try clear q17
           try clear q174
           try clear q175
           try clear q177
           try clear q178
           try clear q18
           try clear q181
           try clear q182
           try clear q184
           try clear q185
           try clear q188
           try clear q189
           try clear q2
           try clear q25
           try clear q26
           try clear q5
           try clear q50
           try clear q51
           obtain⟨kq,x0_72,HA,HJ72,HO_0,HK,HB⟩:=hcut;cases kq with
           | zero=>exact absurd HA.out (by simp [Azz.j7])
           | succ kj72 =>
            have H:=HA.out;clear HA;simp only[Azz.j7] at H;have HC78:=aM H;clear H;go_upto_region 41 with (fail)
            go_cut [199] (fun v199 wc=>∃ (kq:Nat) (x199_77:Bool),v199=.bool x199_77∧Aside0 (Azz.j8 kq x0_72 a1 a3 (wrap64 ((IntKind.u64.wrap (wrap64 (a1+a3))) / 2)) x20_2 (wrap64 ((wrap64 ((wrap64 ((IntKind.u64.wrap (wrap64 (a1+a3))) / 2))+a2)) - x20_2)) x199_77 l4_0=some r)∧Aside0 (kq≤kj72)∧Aside0 (Kd.R (Kd.int .i64) 3 wc w0.heap.size (fun k_=>(P0_ k_∨w.heap.size≤k_)) u9000_ x0_72)∧Aside0 (Kept w wc (fun k_=>P0_ k_))∧Aside0 (Below w0.heap.size w0 wc))
            case first =>
             have H:=HC78.out;clear HC78;by_cases c79:a1 < x20_2
             ·rw[if_pos c79] at H;have c79b0:decide (a1 < x20_2)=true:=dE c79;clear c79;(first|rw[c79b0]|(simp only[i64_w,i32_w];rw[c79b0])|skip)
              have H':=aM H;clear H;go_wp2
              go_meet
              case rel=>exact⟨_,(decide (x20_2 < (wrap64 ((IntKind.u64.wrap (wrap64 (a1+a3))) / 2)))),sD,H',⟨by have:=HJ55.out;have:=HK2.out;have:=HJ70.out;have:=HJ72.out;first|omega|exact Nat.le_refl _⟩,⟨rX HO_0.out⟩,⟨kK HK⟩,⟨pB⟩⟩
             ·rw[if_neg c79] at H;have c79b0:decide (a1 < x20_2)=false:=decide_eq_false c79;clear c79;(first|rw[c79b0]|(simp only[i64_w,i32_w];rw[c79b0])|skip)
              have H':=aM H;clear H;go_wp2
              go_meet
              case rel=>exact⟨_,(false),sD,H',⟨by have:=HJ55.out;have:=HK2.out;have:=HJ70.out;have:=HJ72.out;first|omega|exact Nat.le_refl _⟩,⟨rX HO_0.out⟩,⟨kK HK⟩,⟨pB⟩⟩
            case rest=>as_aux_lemma =>
             clear HC78;try clear c1
             try clear p1
             try clear q1
             try clear hx1
             try clear c2
             try clear p2
             try clear q2
             try clear hx2
             try clear c3
             try clear c4
             try clear c5
             try clear p5
             try clear q5
             try clear hx5
             try clear hf5
             try clear c6
             try clear c6b0
             try clear c6b1
             try clear p6
             try clear c7
             try clear c7b0
             try clear c9
             try clear c9b0
             try clear c10
             try clear c10b0
             try clear c11
             try clear c11b0
             try clear c12
             try clear c12b0
             try clear c14
             try clear c14b0
             try clear p17
             try clear q17
             try clear hx17
             try clear p18
             try clear q18
             try clear hx18
             try clear c19
             try clear c19b0
             try clear c21
             try clear c21b0
             try clear c22
             try clear c22b0
             try clear c23
             try clear c23b0
             try clear c24
             try clear c24b0
             try clear p25
             try clear q25
             try clear hx25
             try clear hf25
             try clear c26
             try clear p26
             try clear q26
             try clear hx26
             try clear hf26
             try clear c31
             try clear c31b0
             try clear c31b1
             try clear c32
             try clear c32b0
             try clear c33
             try clear c33b0
             try clear c34
             try clear c34b0
             try clear c36
             try clear c36b0
             try clear c37
             try clear c37b0
             try clear c39
             try clear c39b0
             try clear c44
             try clear c44b0
             try clear c46
             try clear c46b0
             try clear c47
             try clear c47b0
             try clear c48
             try clear c48b0
             try clear c49
             try clear c49b0
             try clear p50
             try clear q50
             try clear hx50
             try clear hf50
             try clear p51
             try clear q51
             try clear hx51
             try clear hf51
             try clear c57
             try clear c57b0
             try clear c58
             try clear c58b0
             try clear c60
             try clear c60b0
             try clear c61
             try clear c61b0
             try clear c63
             try clear c63b0
             try clear c64
             try clear c64b0
             try clear p64
             try clear c66
             try clear c66b0
             try clear c72
             try clear c72b0
             try clear c74
             try clear c79
             try clear c79b0
             try clear hx174_0
             try clear hx175_0
             try clear hx177_0
             try clear hx178_0
             try clear hx181_0
             try clear hx182_0
             try clear hx184_0
             try clear hx185_0
             try clear hx188_0
             try clear hx189_0
             try clear hx25_0
             try clear hx26_0
             try clear hx50_0
             try clear hx51_0
             try clear p1
             try clear p17
             try clear p174
             try clear p175
             try clear p177
             try clear p178
             try clear p18
             try clear p181
             try clear p182
             try clear p184
             try clear p185
             try clear p188
             try clear p189
             try clear p2
             try clear p25
             try clear p26
             try clear p5
             try clear p50
             try clear p51
             try clear p6
             try clear p64
             try clear q1
             try clear q17
             try clear q174
             try clear q175
             try clear q177
             try clear q178
             try clear q18
             try clear q181
             try clear q182
             try clear q184
             try clear q185
             try clear q188
             try clear q189
             try clear q2
             try clear q25
             try clear q26
             try clear q5
             try clear q50
             try clear q51
             obtain⟨kq,x199_77,rfl,HA,HJ77,HO_0,HK,HB⟩:=hcut;cases kq with
             | zero=>exact absurd HA.out (by simp [Azz.j8])
             | succ kj77 =>
              have H:=HA.out;clear HA;simp only[Azz.j8] at H;by_cases c80:x199_77=true
              ·subst c80;rw[if_pos rfl] at H;replace H:=bS H;obtain⟨t192,A810,H⟩:=H;(try dsimp only at H);have A81:=aM A810;clear A810;by_cases c82:(wrap64 ((IntKind.u64.wrap (wrap64 (a1+a3))) / 2)) < (wrap64 ((wrap64 ((wrap64 ((IntKind.u64.wrap (wrap64 (a1+a3))) / 2))+a2)) - x20_2))
               ·rw[if_pos c82] at H;have c82b0:decide ((wrap64 ((IntKind.u64.wrap (wrap64 (a1+a3))) / 2)) < (wrap64 ((wrap64 ((wrap64 ((IntKind.u64.wrap (wrap64 (a1+a3))) / 2))+a2)) - x20_2)))=true:=dE c82;have c82b0w:decide ((IntKind.i64.wrap ((IntKind.u64.wrap (IntKind.i64.wrap (a1+a3))) / 2)) < (IntKind.i64.wrap ((IntKind.i64.wrap ((IntKind.i64.wrap ((IntKind.u64.wrap (IntKind.i64.wrap (a1+a3))) / 2))+a2)) - x20_2)))=true:=by have h_:=c82b0;first|exact h_|(simp only[i64_w];exact h_)
                clear c82;by_cases c83:(wrap64 ((wrap64 ((wrap64 ((IntKind.u64.wrap (wrap64 (a1+a3))) / 2))+a2)) - x20_2)) < a3
                ·rw[if_pos c83] at H;have c83b0:decide ((wrap64 ((wrap64 ((wrap64 ((IntKind.u64.wrap (wrap64 (a1+a3))) / 2))+a2)) - x20_2)) < a3)=true:=dE c83;have c83b0w:decide ((IntKind.i64.wrap ((IntKind.i64.wrap ((IntKind.i64.wrap ((IntKind.u64.wrap (IntKind.i64.wrap (a1+a3))) / 2))+a2)) - x20_2)) < a3)=true:=by have h_:=c83b0;first|exact h_|(simp only[i64_w];exact h_)
                 clear c83;replace H:=bS H;obtain⟨t193,A840,H⟩:=H;replace H:(some t193)=some r:=H;have A84:=aM A840;clear A840;obtain rfl:=Option.some.inj H;obtain⟨Ao85,co85,eo85⟩:=Kd.R_slice HO_0.out;subst eo85;go_wp2_with (first|((with_reducible refine gate_callee (f:=58) rfl ?_);refine goesL_ (some 205) rfl rfl Try.func58 (by kernel_rfl) rfl #[.slice Ao85 x0_72.length co85,.int .i64 a1,.int .i64 x20_2,.int .i64 (wrap64 ((IntKind.u64.wrap (wrap64 (a1+a3))) / 2)),.func (.func 26) #[] #[.pointer A4_0]] rfl mA ?_;(with_reducible refine(ih kj77 (by have:=HJ55.out;have:=HK2.out;have:=HJ70.out;have:=HJ72.out;have:=HJ77.out;omega) (fun k_=>some k_=(.slice Ao85 x0_72.length co85:Value).ownBlock) (.slice Ao85 x0_72.length co85) x0_72 a1 x20_2 (wrap64 ((IntKind.u64.wrap (wrap64 (a1+a3))) / 2)) _ c4_0 l4_0 t192 w0 _ ?side1 ?side2 ?side3 ?side4 A81.out).mono ?_);(case side1=>repeat(first|(with_reducible first|exact HB.out|apply below_alloc|apply pw_below_drewN|apply below_drew1)|exact HB.out));(case side2=>exact Kd.R_tight rfl HO_0.out);(case side3=>exact Kd.C_kept_call HR4_0.out (kK HK) (fun k_ hs_=>(fun e_=>(HO_0.out.1 k_ e_.symm)) hs_));(case side4=>exact HC4_0.out);rintro e w86 ⟨rfl,hy0,hb,hkp⟩;refine⟨_,rfl,?_⟩;replace HK:=aM (Kept.then_ (S:=(fun k_=>P0_ k_)) (kK HK) hkp (fun k_ hs_=>(fun e_=>(HO_0.out.1 k_ e_.symm)) hs_));replace HO_0:=aM (Kd.R_reok rfl hy0 (fun k_ e_=>HO_0.out.1 k_ e_));replace HB:=aM (hb);(try clear hb);(try clear hkp);(try clear hy0))|((with_reducible refine gate_callee (f:=58) rfl ?_);refine goesL_ (some 219) rfl rfl Try.func58 (by kernel_rfl) rfl #[.slice Ao85 x0_72.length co85,.int .i64 (wrap64 ((IntKind.u64.wrap (wrap64 (a1+a3))) / 2)),.int .i64 (wrap64 ((wrap64 ((wrap64 ((IntKind.u64.wrap (wrap64 (a1+a3))) / 2))+a2)) - x20_2)),.int .i64 a3,.func (.func 26) #[] #[.pointer A4_0]] rfl mA ?_;(with_reducible refine(ih kj77 (by have:=HJ55.out;have:=HK2.out;have:=HJ70.out;have:=HJ72.out;have:=HJ77.out;omega) (fun k_=>some k_=(.slice Ao85 x0_72.length co85:Value).ownBlock) (.slice Ao85 x0_72.length co85) t192 (wrap64 ((IntKind.u64.wrap (wrap64 (a1+a3))) / 2)) (wrap64 ((wrap64 ((wrap64 ((IntKind.u64.wrap (wrap64 (a1+a3))) / 2))+a2)) - x20_2)) a3 _ c4_0 l4_0 t193 w0 _ ?side1 ?side2 ?side3 ?side4 A84.out).mono ?_);(case side1=>repeat(first|(with_reducible first|exact HB.out|apply below_alloc|apply pw_below_drewN|apply below_drew1)|exact HB.out));(case side2=>exact Kd.R_tight rfl HO_0.out);(case side3=>exact Kd.C_kept_call HR4_0.out (kK HK) (fun k_ hs_=>(fun e_=>(HO_0.out.1 k_ e_.symm)) hs_));(case side4=>exact HC4_0.out);rintro e w87 ⟨rfl,hy0,hb,hkp⟩;refine⟨_,rfl,?_⟩;replace HK:=aM (Kept.then_ (S:=(fun k_=>P0_ k_)) (kK HK) hkp (fun k_ hs_=>(fun e_=>(HO_0.out.1 k_ e_.symm)) hs_));replace HO_0:=aM (Kd.R_reok rfl hy0 (fun k_ e_=>HO_0.out.1 k_ e_));replace HB:=aM (hb);(try clear hb);(try clear hkp);(try clear hy0)))
                 first|go_end0|((try simp only[Exit.inBlock,Exit.then]);refine bodyPost_ret (results_none rfl _ _ _) rfl ?_)
                 exact⟨eW,rX HO_0.out,pB,kK HK⟩
                ·rw[if_neg c83] at H;have c83b0:decide ((wrap64 ((wrap64 ((wrap64 ((IntKind.u64.wrap (wrap64 (a1+a3))) / 2))+a2)) - x20_2)) < a3)=false:=decide_eq_false c83;have c83b0w:decide ((IntKind.i64.wrap ((IntKind.i64.wrap ((IntKind.i64.wrap ((IntKind.u64.wrap (IntKind.i64.wrap (a1+a3))) / 2))+a2)) - x20_2)) < a3)=false:=by have h_:=c83b0;first|exact h_|(simp only[i64_w];exact h_)
                 clear c83;obtain rfl:=Option.some.inj H;obtain⟨Ao88,co88,eo88⟩:=Kd.R_slice HO_0.out;subst eo88;go_wp2_with (first|((with_reducible refine gate_callee (f:=58) rfl ?_);refine goesL_ (some 205) rfl rfl Try.func58 (by kernel_rfl) rfl #[.slice Ao88 x0_72.length co88,.int .i64 a1,.int .i64 x20_2,.int .i64 (wrap64 ((IntKind.u64.wrap (wrap64 (a1+a3))) / 2)),.func (.func 26) #[] #[.pointer A4_0]] rfl mA ?_;(with_reducible refine(ih kj77 (by have:=HJ55.out;have:=HK2.out;have:=HJ70.out;have:=HJ72.out;have:=HJ77.out;omega) (fun k_=>some k_=(.slice Ao88 x0_72.length co88:Value).ownBlock) (.slice Ao88 x0_72.length co88) x0_72 a1 x20_2 (wrap64 ((IntKind.u64.wrap (wrap64 (a1+a3))) / 2)) _ c4_0 l4_0 t192 w0 _ ?side1 ?side2 ?side3 ?side4 A81.out).mono ?_);(case side1=>repeat(first|(with_reducible first|exact HB.out|apply below_alloc|apply pw_below_drewN|apply below_drew1)|exact HB.out));(case side2=>exact Kd.R_tight rfl HO_0.out);(case side3=>exact Kd.C_kept_call HR4_0.out (kK HK) (fun k_ hs_=>(fun e_=>(HO_0.out.1 k_ e_.symm)) hs_));(case side4=>exact HC4_0.out);rintro e w89 ⟨rfl,hy0,hb,hkp⟩;refine⟨_,rfl,?_⟩;replace HK:=aM (Kept.then_ (S:=(fun k_=>P0_ k_)) (kK HK) hkp (fun k_ hs_=>(fun e_=>(HO_0.out.1 k_ e_.symm)) hs_));replace HO_0:=aM (Kd.R_reok rfl hy0 (fun k_ e_=>HO_0.out.1 k_ e_));replace HB:=aM (hb);(try clear hb);(try clear hkp);(try clear hy0)))
                 first|go_end0|((try simp only[Exit.inBlock,Exit.then]);refine bodyPost_ret (results_none rfl _ _ _) rfl ?_)
                 exact⟨eW,rX HO_0.out,pB,kK HK⟩
               ·rw[if_neg c82] at H;have c82b0:decide ((wrap64 ((IntKind.u64.wrap (wrap64 (a1+a3))) / 2)) < (wrap64 ((wrap64 ((wrap64 ((IntKind.u64.wrap (wrap64 (a1+a3))) / 2))+a2)) - x20_2)))=false:=decide_eq_false c82;have c82b0w:decide ((IntKind.i64.wrap ((IntKind.u64.wrap (IntKind.i64.wrap (a1+a3))) / 2)) < (IntKind.i64.wrap ((IntKind.i64.wrap ((IntKind.i64.wrap ((IntKind.u64.wrap (IntKind.i64.wrap (a1+a3))) / 2))+a2)) - x20_2)))=false:=by have h_:=c82b0;first|exact h_|(simp only[i64_w];exact h_)
                clear c82;obtain rfl:=Option.some.inj H;obtain⟨Ao90,co90,eo90⟩:=Kd.R_slice HO_0.out;subst eo90;go_wp2_with (first|((with_reducible refine gate_callee (f:=58) rfl ?_);refine goesL_ (some 205) rfl rfl Try.func58 (by kernel_rfl) rfl #[.slice Ao90 x0_72.length co90,.int .i64 a1,.int .i64 x20_2,.int .i64 (wrap64 ((IntKind.u64.wrap (wrap64 (a1+a3))) / 2)),.func (.func 26) #[] #[.pointer A4_0]] rfl mA ?_;(with_reducible refine(ih kj77 (by have:=HJ55.out;have:=HK2.out;have:=HJ70.out;have:=HJ72.out;have:=HJ77.out;omega) (fun k_=>some k_=(.slice Ao90 x0_72.length co90:Value).ownBlock) (.slice Ao90 x0_72.length co90) x0_72 a1 x20_2 (wrap64 ((IntKind.u64.wrap (wrap64 (a1+a3))) / 2)) _ c4_0 l4_0 t192 w0 _ ?side1 ?side2 ?side3 ?side4 A81.out).mono ?_);(case side1=>repeat(first|(with_reducible first|exact HB.out|apply below_alloc|apply pw_below_drewN|apply below_drew1)|exact HB.out));(case side2=>exact Kd.R_tight rfl HO_0.out);(case side3=>exact Kd.C_kept_call HR4_0.out (kK HK) (fun k_ hs_=>(fun e_=>(HO_0.out.1 k_ e_.symm)) hs_));(case side4=>exact HC4_0.out);rintro e w91 ⟨rfl,hy0,hb,hkp⟩;refine⟨_,rfl,?_⟩;replace HK:=aM (Kept.then_ (S:=(fun k_=>P0_ k_)) (kK HK) hkp (fun k_ hs_=>(fun e_=>(HO_0.out.1 k_ e_.symm)) hs_));replace HO_0:=aM (Kd.R_reok rfl hy0 (fun k_ e_=>HO_0.out.1 k_ e_));replace HB:=aM (hb);(try clear hb);(try clear hkp);(try clear hy0)))
                first|go_end0|((try simp only[Exit.inBlock,Exit.then]);refine bodyPost_ret (results_none rfl _ _ _) rfl ?_)
                exact⟨eW,rX HO_0.out,pB,kK HK⟩
              ·replace c80:=Bool.eq_false_iff.mpr c80;subst c80;rw[if_neg (show ¬ (false=true) by decide)] at H
               by_cases c92:(wrap64 ((IntKind.u64.wrap (wrap64 (a1+a3))) / 2)) < (wrap64 ((wrap64 ((wrap64 ((IntKind.u64.wrap (wrap64 (a1+a3))) / 2))+a2)) - x20_2))
               ·rw[if_pos c92] at H;have c92b0:decide ((wrap64 ((IntKind.u64.wrap (wrap64 (a1+a3))) / 2)) < (wrap64 ((wrap64 ((wrap64 ((IntKind.u64.wrap (wrap64 (a1+a3))) / 2))+a2)) - x20_2)))=true:=dE c92;have c92b0w:decide ((IntKind.i64.wrap ((IntKind.u64.wrap (IntKind.i64.wrap (a1+a3))) / 2)) < (IntKind.i64.wrap ((IntKind.i64.wrap ((IntKind.i64.wrap ((IntKind.u64.wrap (IntKind.i64.wrap (a1+a3))) / 2))+a2)) - x20_2)))=true:=by have h_:=c92b0;first|exact h_|(simp only[i64_w];exact h_)
                clear c92;by_cases c93:(wrap64 ((wrap64 ((wrap64 ((IntKind.u64.wrap (wrap64 (a1+a3))) / 2))+a2)) - x20_2)) < a3
                ·rw[if_pos c93] at H;have c93b0:decide ((wrap64 ((wrap64 ((wrap64 ((IntKind.u64.wrap (wrap64 (a1+a3))) / 2))+a2)) - x20_2)) < a3)=true:=dE c93;have c93b0w:decide ((IntKind.i64.wrap ((IntKind.i64.wrap ((IntKind.i64.wrap ((IntKind.u64.wrap (IntKind.i64.wrap (a1+a3))) / 2))+a2)) - x20_2)) < a3)=true:=by have h_:=c93b0;first|exact h_|(simp only[i64_w];exact h_)
                 clear c93;replace H:=bS H;obtain⟨t194,A940,H⟩:=H;replace H:(some t194)=some r:=H;have A94:=aM A940;clear A940;obtain rfl:=Option.some.inj H;obtain⟨Ao95,co95,eo95⟩:=Kd.R_slice HO_0.out;subst eo95;go_wp2_with (first|((with_reducible refine gate_callee (f:=58) rfl ?_);refine goesL_ (some 219) rfl rfl Try.func58 (by kernel_rfl) rfl #[.slice Ao95 x0_72.length co95,.int .i64 (wrap64 ((IntKind.u64.wrap (wrap64 (a1+a3))) / 2)),.int .i64 (wrap64 ((wrap64 ((wrap64 ((IntKind.u64.wrap (wrap64 (a1+a3))) / 2))+a2)) - x20_2)),.int .i64 a3,.func (.func 26) #[] #[.pointer A4_0]] rfl mA ?_;(with_reducible refine(ih kj77 (by have:=HJ55.out;have:=HK2.out;have:=HJ70.out;have:=HJ72.out;have:=HJ77.out;omega) (fun k_=>some k_=(.slice Ao95 x0_72.length co95:Value).ownBlock) (.slice Ao95 x0_72.length co95) x0_72 (wrap64 ((IntKind.u64.wrap (wrap64 (a1+a3))) / 2)) (wrap64 ((wrap64 ((wrap64 ((IntKind.u64.wrap (wrap64 (a1+a3))) / 2))+a2)) - x20_2)) a3 _ c4_0 l4_0 t194 w0 _ ?side1 ?side2 ?side3 ?side4 A94.out).mono ?_);(case side1=>repeat(first|(with_reducible first|exact HB.out|apply below_alloc|apply pw_below_drewN|apply below_drew1)|exact HB.out));(case side2=>exact Kd.R_tight rfl HO_0.out);(case side3=>exact Kd.C_kept_call HR4_0.out (kK HK) (fun k_ hs_=>(fun e_=>(HO_0.out.1 k_ e_.symm)) hs_));(case side4=>exact HC4_0.out);rintro e w96 ⟨rfl,hy0,hb,hkp⟩;refine⟨_,rfl,?_⟩;replace HK:=aM (Kept.then_ (S:=(fun k_=>P0_ k_)) (kK HK) hkp (fun k_ hs_=>(fun e_=>(HO_0.out.1 k_ e_.symm)) hs_));replace HO_0:=aM (Kd.R_reok rfl hy0 (fun k_ e_=>HO_0.out.1 k_ e_));replace HB:=aM (hb);(try clear hb);(try clear hkp);(try clear hy0)))
                 first|go_end0|((try simp only[Exit.inBlock,Exit.then]);refine bodyPost_ret (results_none rfl _ _ _) rfl ?_)
                 exact⟨eW,rX HO_0.out,pB,kK HK⟩
                ·rw[if_neg c93] at H;have c93b0:decide ((wrap64 ((wrap64 ((wrap64 ((IntKind.u64.wrap (wrap64 (a1+a3))) / 2))+a2)) - x20_2)) < a3)=false:=decide_eq_false c93;have c93b0w:decide ((IntKind.i64.wrap ((IntKind.i64.wrap ((IntKind.i64.wrap ((IntKind.u64.wrap (IntKind.i64.wrap (a1+a3))) / 2))+a2)) - x20_2)) < a3)=false:=by have h_:=c93b0;first|exact h_|(simp only[i64_w];exact h_)
                 clear c93;obtain rfl:=Option.some.inj H;go_wp2
                 first|go_end0|((try simp only[Exit.inBlock,Exit.then]);refine bodyPost_ret (results_none rfl _ _ _) rfl ?_)
                 exact⟨eW,rX HO_0.out,pB,kK HK⟩
               ·rw[if_neg c92] at H;have c92b0:decide ((wrap64 ((IntKind.u64.wrap (wrap64 (a1+a3))) / 2)) < (wrap64 ((wrap64 ((wrap64 ((IntKind.u64.wrap (wrap64 (a1+a3))) / 2))+a2)) - x20_2)))=false:=decide_eq_false c92;have c92b0w:decide ((IntKind.i64.wrap ((IntKind.u64.wrap (IntKind.i64.wrap (a1+a3))) / 2)) < (IntKind.i64.wrap ((IntKind.i64.wrap ((IntKind.i64.wrap ((IntKind.u64.wrap (IntKind.i64.wrap (a1+a3))) / 2))+a2)) - x20_2)))=false:=by have h_:=c92b0;first|exact h_|(simp only[i64_w];exact h_)
                clear c92;obtain rfl:=Option.some.inj H;go_wp2
                first|go_end0|((try simp only[Exit.inBlock,Exit.then]);refine bodyPost_ret (results_none rfl _ _ _) rfl ?_)
                exact⟨eW,rX HO_0.out,pB,kK HK⟩

end Go.Proofs.Ytloihkecfommbaa.Print
