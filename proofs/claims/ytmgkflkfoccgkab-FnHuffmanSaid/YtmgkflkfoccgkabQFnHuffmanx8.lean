-- Written by this session's own program (wip/x/xprint.py, over the kit's printer); Lean checks it.
import Derived.Test.YtmgkflkfoccgkabQFnHuffmanx0
import Derived.Test.YtmgkflkfoccgkabQFnHuffmanx1
import Derived.Test.YtmgkflkfoccgkabQFnHuffmanx2
import Derived.Test.YtmgkflkfoccgkabQFnHuffmanx4
import Derived.Test.YtmgkflkfoccgkabQFnHuffmanx5
import Derived.Test.YtmgkflkfoccgkabQFnHuffmanx6
import Derived.Test.YtmgkflkfoccgkabQFnHuffmanx7
namespace Go.Proofs.Ytmgkflkfoccgkab.QFnHuffman
open Go.RowKit Go.Proofs.YtmgkflkfoccgkabW.PrintWords Go.Proofs.YtmgkflkfoccgkabW.PrintLast Go.Proofs.YtmgkflkfoccgkabW.PrintMore
attribute [local go_sem] max2_int min2_int max_two min_two max_three min_three max_four min_four   -- for this text's walks alone
set_option linter.unusedVariables false
set_option linter.unusedSimpArgs false

/-! ### laws_FnHuffman: function 5 -/
mutual
def laws_FnHuffman.j0:Nat → List Int → List Int → List Int → Bool → Bool → Option (Bool)
 | 0,_,_,_,_,_=>none
 | k + 1,x1,x5,x6,x7,x53=>if x53 = true then (some false) else ((spec_DrawCostBy.f k x1).bind fun bt298=>((impl_CostBy.f k bt298.1 bt298.2).bind fun bt304=>((spec_CostBy.f k bt298.1 bt298.2).bind fun bt306=>(if (bt304.2 != bt306.2) = true then (laws_FnHuffman.j1 k x1 x5 x6 x7 bt298.2 bt304.1 bt304.2 true) else (laws_FnHuffman.j1 k x1 x5 x6 x7 bt298.2 bt304.1 bt304.2 (bt304.1 != bt306.1))))))
def laws_FnHuffman.j1:Nat → List Int → List Int → List Int → Bool → List Int → Int → Bool → Bool → Option (Bool)
 | 0,_,_,_,_,_,_,_,_=>none
 | k + 1,x1,x5,x6,x7,x11,x12,x13,x78=>if x78 = true then (some false) else (if x13 = true then ((impl_LengthsOf.f k x11).bind fun bt308=>((impl_CostBy.f k bt308.1 x11).bind fun bt312=>(if bt308.2 = true then (if bt312.2 = true then (if bt312.1 > x12 then (some false) else (laws_FnHuffman.j2 k x1 x5 x6 x7)) else (some false)) else (some false)))) else (laws_FnHuffman.j2 k x1 x5 x6 x7))
def laws_FnHuffman.j2:Nat → List Int → List Int → List Int → Bool → Option (Bool)
 | 0,_,_,_,_=>none
 | k + 1,x1,x5,x6,x7=>if x7 = true then ((impl_KraftOf.f k x6).bind fun bt314=>(laws_FnHuffman.l0 k x1 x6 bt314.1 bt314.2 0 x5 (x5.length:Int) 0)) else (laws_FnHuffman.j4 k x1)
def laws_FnHuffman.j4:Nat → List Int → Option (Bool)
 | 0,_=>none
 | k + 1,x1=>(spec_DrawKraftOf.f k x1).bind fun t318=>((impl_KraftOf.f k t318).bind fun bt321=>((spec_KraftOf.f k t318).bind fun bt323=>(if (bt321.2 == bt323.2) = true then (if bt321.1 = bt323.1 then ((impl_GoodLengths.f k t318).bind fun t325=>((spec_GoodLengths.f k t318).bind fun t326=>(some (t325 == t326)))) else (some false)) else (some false))))
def laws_FnHuffman.l0:Nat → List Int → List Int → Int → Bool → Int → List Int → Int → Int → Option (Bool)
 | 0,_,_,_,_,_,_,_,_=>none
 | k + 1,x1,x6,x20,x21,x22,x108,x109,x110=>if x110 < x109 then (if 0 ≤ x110 then (if x110 < (x108.length:Int) then (if (rd x108 x110) > 0 then (laws_FnHuffman.l0 k x1 x6 x20 x21 (wrap64 (x22 + 1)) x108 x109 (wrap64 (x110 + 1))) else (laws_FnHuffman.l0 k x1 x6 x20 x21 x22 x108 x109 (wrap64 (x110 + 1)))) else (none)) else (none)) else ((impl_GoodLengths.f k x6).bind fun t317=>(if t317 = true then (if x21 = true then (if x22 > 1 then (if x20 = 4096 then (if x22 = 1 then (if x20 = 2048 then (if x22 = 0 then (if x20 = 0 then (laws_FnHuffman.j4 k x1) else (some false)) else (laws_FnHuffman.j4 k x1)) else (some false)) else (if x22 = 0 then (if x20 = 0 then (laws_FnHuffman.j4 k x1) else (some false)) else (laws_FnHuffman.j4 k x1))) else (some false)) else (if x22 = 1 then (if x20 = 2048 then (if x22 = 0 then (if x20 = 0 then (laws_FnHuffman.j4 k x1) else (some false)) else (laws_FnHuffman.j4 k x1)) else (some false)) else (if x22 = 0 then (if x20 = 0 then (laws_FnHuffman.j4 k x1) else (some false)) else (laws_FnHuffman.j4 k x1)))) else (some false)) else (some false)))
end
def laws_FnHuffman.f (k:Nat) (l0:List Int) (l1:List Int):Option (Bool):=(laws_big.f l0 l1).bind fun t285=>(if t285 = true then (some true) else ((spec_DrawLengthsOf.f k l0).bind fun t286=>((impl_LengthsOf.f k t286).bind fun bt289=>((spec_LengthsOf.f k t286).bind fun bt293=>(if (bt289.2 != bt293.2) = true then (laws_FnHuffman.j0 k l1 t286 bt289.1 bt289.2 true) else ((laws_sameInts.f k bt289.1 bt293.1).bind fun t297=>(laws_FnHuffman.j0 k l1 t286 bt289.1 bt289.2 (!t297))))))))
theorem laws_FnHuffman.mono_l:∀ k,(∀ y0 y1 y2 y3 y4,LeO (laws_FnHuffman.j0 k y0 y1 y2 y3 y4) (laws_FnHuffman.j0 (k + 1) y0 y1 y2 y3 y4)) ∧ (∀ y0 y1 y2 y3 y4 y5 y6 y7,LeO (laws_FnHuffman.j1 k y0 y1 y2 y3 y4 y5 y6 y7) (laws_FnHuffman.j1 (k + 1) y0 y1 y2 y3 y4 y5 y6 y7)) ∧ (∀ y0 y1 y2 y3,LeO (laws_FnHuffman.j2 k y0 y1 y2 y3) (laws_FnHuffman.j2 (k + 1) y0 y1 y2 y3)) ∧ (∀ y0,LeO (laws_FnHuffman.j4 k y0) (laws_FnHuffman.j4 (k + 1) y0)) ∧ (∀ y0 y1 y2 y3 y4 y5 y6 y7,LeO (laws_FnHuffman.l0 k y0 y1 y2 y3 y4 y5 y6 y7) (laws_FnHuffman.l0 (k + 1) y0 y1 y2 y3 y4 y5 y6 y7))
 | 0=>⟨fun _ _ _ _ _ r h=>by simp [laws_FnHuffman.j0] at h,fun _ _ _ _ _ _ _ _ r h=>by simp [laws_FnHuffman.j1] at h,fun _ _ _ _ r h=>by simp [laws_FnHuffman.j2] at h,fun _ r h=>by simp [laws_FnHuffman.j4] at h,fun _ _ _ _ _ _ _ _ r h=>by simp [laws_FnHuffman.l0] at h⟩
 | k + 1=>by
  obtain ⟨ih0,ih1,ih2,ih3,ih4⟩:=laws_FnHuffman.mono_l k
  refine ⟨?_,?_,?_,?_,?_⟩
  ·intro y0 y1 y2 y3 y4
   unfold laws_FnHuffman.j0
   repeat' first
   | (with_reducible exact ih0 _ _ _ _ _)
   | (with_reducible exact ih1 _ _ _ _ _ _ _ _)
   | (with_reducible exact ih2 _ _ _ _)
   | (with_reducible exact ih3 _)
   | (with_reducible exact ih4 _ _ _ _ _ _ _ _)
   | (with_reducible exact impl_CostBy.mono _ _ _)
   | (with_reducible exact impl_GoodLengths.mono _ _)
   | (with_reducible exact impl_KraftOf.mono _ _)
   | (with_reducible exact impl_LengthsOf.mono _ _)
   | (with_reducible exact laws_sameInts.mono _ _ _)
   | (with_reducible exact spec_CostBy.mono _ _ _)
   | (with_reducible exact spec_DrawCostBy.mono _ _)
   | (with_reducible exact spec_DrawKraftOf.mono _ _)
   | (with_reducible exact spec_DrawLengthsOf.mono _ _)
   | (with_reducible exact spec_GoodLengths.mono _ _)
   | (with_reducible exact spec_KraftOf.mono _ _)
   | (with_reducible exact spec_LengthsOf.mono _ _)
   | (with_reducible exact LeO.refl _)
   | (with_reducible exact LeO.none _)
   | (with_reducible refine LeO.ite ?_ ?_)
   | (with_reducible refine LeO.bind ?_ (fun _=>?_))
   | exact ih0 _ _ _ _ _
   | exact ih1 _ _ _ _ _ _ _ _
   | exact ih2 _ _ _ _
   | exact ih3 _
   | exact ih4 _ _ _ _ _ _ _ _
   | exact impl_CostBy.mono _ _ _
   | exact impl_GoodLengths.mono _ _
   | exact impl_KraftOf.mono _ _
   | exact impl_LengthsOf.mono _ _
   | exact laws_sameInts.mono _ _ _
   | exact spec_CostBy.mono _ _ _
   | exact spec_DrawCostBy.mono _ _
   | exact spec_DrawKraftOf.mono _ _
   | exact spec_DrawLengthsOf.mono _ _
   | exact spec_GoodLengths.mono _ _
   | exact spec_KraftOf.mono _ _
   | exact spec_LengthsOf.mono _ _
   | exact LeO.none _
   | refine LeO.ite ?_ ?_
   | refine LeO.bind ?_ (fun _=>?_)
  ·intro y0 y1 y2 y3 y4 y5 y6 y7
   unfold laws_FnHuffman.j1
   repeat' first
   | (with_reducible exact ih0 _ _ _ _ _)
   | (with_reducible exact ih1 _ _ _ _ _ _ _ _)
   | (with_reducible exact ih2 _ _ _ _)
   | (with_reducible exact ih3 _)
   | (with_reducible exact ih4 _ _ _ _ _ _ _ _)
   | (with_reducible exact impl_CostBy.mono _ _ _)
   | (with_reducible exact impl_GoodLengths.mono _ _)
   | (with_reducible exact impl_KraftOf.mono _ _)
   | (with_reducible exact impl_LengthsOf.mono _ _)
   | (with_reducible exact laws_sameInts.mono _ _ _)
   | (with_reducible exact spec_CostBy.mono _ _ _)
   | (with_reducible exact spec_DrawCostBy.mono _ _)
   | (with_reducible exact spec_DrawKraftOf.mono _ _)
   | (with_reducible exact spec_DrawLengthsOf.mono _ _)
   | (with_reducible exact spec_GoodLengths.mono _ _)
   | (with_reducible exact spec_KraftOf.mono _ _)
   | (with_reducible exact spec_LengthsOf.mono _ _)
   | (with_reducible exact LeO.refl _)
   | (with_reducible exact LeO.none _)
   | (with_reducible refine LeO.ite ?_ ?_)
   | (with_reducible refine LeO.bind ?_ (fun _=>?_))
   | exact ih0 _ _ _ _ _
   | exact ih1 _ _ _ _ _ _ _ _
   | exact ih2 _ _ _ _
   | exact ih3 _
   | exact ih4 _ _ _ _ _ _ _ _
   | exact impl_CostBy.mono _ _ _
   | exact impl_GoodLengths.mono _ _
   | exact impl_KraftOf.mono _ _
   | exact impl_LengthsOf.mono _ _
   | exact laws_sameInts.mono _ _ _
   | exact spec_CostBy.mono _ _ _
   | exact spec_DrawCostBy.mono _ _
   | exact spec_DrawKraftOf.mono _ _
   | exact spec_DrawLengthsOf.mono _ _
   | exact spec_GoodLengths.mono _ _
   | exact spec_KraftOf.mono _ _
   | exact spec_LengthsOf.mono _ _
   | exact LeO.none _
   | refine LeO.ite ?_ ?_
   | refine LeO.bind ?_ (fun _=>?_)
  ·intro y0 y1 y2 y3
   unfold laws_FnHuffman.j2
   repeat' first
   | (with_reducible exact ih0 _ _ _ _ _)
   | (with_reducible exact ih1 _ _ _ _ _ _ _ _)
   | (with_reducible exact ih2 _ _ _ _)
   | (with_reducible exact ih3 _)
   | (with_reducible exact ih4 _ _ _ _ _ _ _ _)
   | (with_reducible exact impl_CostBy.mono _ _ _)
   | (with_reducible exact impl_GoodLengths.mono _ _)
   | (with_reducible exact impl_KraftOf.mono _ _)
   | (with_reducible exact impl_LengthsOf.mono _ _)
   | (with_reducible exact laws_sameInts.mono _ _ _)
   | (with_reducible exact spec_CostBy.mono _ _ _)
   | (with_reducible exact spec_DrawCostBy.mono _ _)
   | (with_reducible exact spec_DrawKraftOf.mono _ _)
   | (with_reducible exact spec_DrawLengthsOf.mono _ _)
   | (with_reducible exact spec_GoodLengths.mono _ _)
   | (with_reducible exact spec_KraftOf.mono _ _)
   | (with_reducible exact spec_LengthsOf.mono _ _)
   | (with_reducible exact LeO.refl _)
   | (with_reducible exact LeO.none _)
   | (with_reducible refine LeO.ite ?_ ?_)
   | (with_reducible refine LeO.bind ?_ (fun _=>?_))
   | exact ih0 _ _ _ _ _
   | exact ih1 _ _ _ _ _ _ _ _
   | exact ih2 _ _ _ _
   | exact ih3 _
   | exact ih4 _ _ _ _ _ _ _ _
   | exact impl_CostBy.mono _ _ _
   | exact impl_GoodLengths.mono _ _
   | exact impl_KraftOf.mono _ _
   | exact impl_LengthsOf.mono _ _
   | exact laws_sameInts.mono _ _ _
   | exact spec_CostBy.mono _ _ _
   | exact spec_DrawCostBy.mono _ _
   | exact spec_DrawKraftOf.mono _ _
   | exact spec_DrawLengthsOf.mono _ _
   | exact spec_GoodLengths.mono _ _
   | exact spec_KraftOf.mono _ _
   | exact spec_LengthsOf.mono _ _
   | exact LeO.none _
   | refine LeO.ite ?_ ?_
   | refine LeO.bind ?_ (fun _=>?_)
  ·intro y0
   unfold laws_FnHuffman.j4
   repeat' first
   | (with_reducible exact ih0 _ _ _ _ _)
   | (with_reducible exact ih1 _ _ _ _ _ _ _ _)
   | (with_reducible exact ih2 _ _ _ _)
   | (with_reducible exact ih3 _)
   | (with_reducible exact ih4 _ _ _ _ _ _ _ _)
   | (with_reducible exact impl_CostBy.mono _ _ _)
   | (with_reducible exact impl_GoodLengths.mono _ _)
   | (with_reducible exact impl_KraftOf.mono _ _)
   | (with_reducible exact impl_LengthsOf.mono _ _)
   | (with_reducible exact laws_sameInts.mono _ _ _)
   | (with_reducible exact spec_CostBy.mono _ _ _)
   | (with_reducible exact spec_DrawCostBy.mono _ _)
   | (with_reducible exact spec_DrawKraftOf.mono _ _)
   | (with_reducible exact spec_DrawLengthsOf.mono _ _)
   | (with_reducible exact spec_GoodLengths.mono _ _)
   | (with_reducible exact spec_KraftOf.mono _ _)
   | (with_reducible exact spec_LengthsOf.mono _ _)
   | (with_reducible exact LeO.refl _)
   | (with_reducible exact LeO.none _)
   | (with_reducible refine LeO.ite ?_ ?_)
   | (with_reducible refine LeO.bind ?_ (fun _=>?_))
   | exact ih0 _ _ _ _ _
   | exact ih1 _ _ _ _ _ _ _ _
   | exact ih2 _ _ _ _
   | exact ih3 _
   | exact ih4 _ _ _ _ _ _ _ _
   | exact impl_CostBy.mono _ _ _
   | exact impl_GoodLengths.mono _ _
   | exact impl_KraftOf.mono _ _
   | exact impl_LengthsOf.mono _ _
   | exact laws_sameInts.mono _ _ _
   | exact spec_CostBy.mono _ _ _
   | exact spec_DrawCostBy.mono _ _
   | exact spec_DrawKraftOf.mono _ _
   | exact spec_DrawLengthsOf.mono _ _
   | exact spec_GoodLengths.mono _ _
   | exact spec_KraftOf.mono _ _
   | exact spec_LengthsOf.mono _ _
   | exact LeO.none _
   | refine LeO.ite ?_ ?_
   | refine LeO.bind ?_ (fun _=>?_)
  ·intro y0 y1 y2 y3 y4 y5 y6 y7
   unfold laws_FnHuffman.l0
   repeat' first
   | (with_reducible exact ih0 _ _ _ _ _)
   | (with_reducible exact ih1 _ _ _ _ _ _ _ _)
   | (with_reducible exact ih2 _ _ _ _)
   | (with_reducible exact ih3 _)
   | (with_reducible exact ih4 _ _ _ _ _ _ _ _)
   | (with_reducible exact impl_CostBy.mono _ _ _)
   | (with_reducible exact impl_GoodLengths.mono _ _)
   | (with_reducible exact impl_KraftOf.mono _ _)
   | (with_reducible exact impl_LengthsOf.mono _ _)
   | (with_reducible exact laws_sameInts.mono _ _ _)
   | (with_reducible exact spec_CostBy.mono _ _ _)
   | (with_reducible exact spec_DrawCostBy.mono _ _)
   | (with_reducible exact spec_DrawKraftOf.mono _ _)
   | (with_reducible exact spec_DrawLengthsOf.mono _ _)
   | (with_reducible exact spec_GoodLengths.mono _ _)
   | (with_reducible exact spec_KraftOf.mono _ _)
   | (with_reducible exact spec_LengthsOf.mono _ _)
   | (with_reducible exact LeO.refl _)
   | (with_reducible exact LeO.none _)
   | (with_reducible refine LeO.ite ?_ ?_)
   | (with_reducible refine LeO.bind ?_ (fun _=>?_))
   | exact ih0 _ _ _ _ _
   | exact ih1 _ _ _ _ _ _ _ _
   | exact ih2 _ _ _ _
   | exact ih3 _
   | exact ih4 _ _ _ _ _ _ _ _
   | exact impl_CostBy.mono _ _ _
   | exact impl_GoodLengths.mono _ _
   | exact impl_KraftOf.mono _ _
   | exact impl_LengthsOf.mono _ _
   | exact laws_sameInts.mono _ _ _
   | exact spec_CostBy.mono _ _ _
   | exact spec_DrawCostBy.mono _ _
   | exact spec_DrawKraftOf.mono _ _
   | exact spec_DrawLengthsOf.mono _ _
   | exact spec_GoodLengths.mono _ _
   | exact spec_KraftOf.mono _ _
   | exact spec_LengthsOf.mono _ _
   | exact LeO.none _
   | refine LeO.ite ?_ ?_
   | refine LeO.bind ?_ (fun _=>?_)
theorem laws_FnHuffman.mono:∀ a0 a1 k,LeO (laws_FnHuffman.f k a0 a1) (laws_FnHuffman.f (k + 1) a0 a1):=by
 intro a0 a1 k
 obtain ⟨ih0,ih1,ih2,ih3,ih4⟩:=laws_FnHuffman.mono_l k
 unfold laws_FnHuffman.f
 repeat' first
   | (with_reducible exact ih0 _ _ _ _ _)
   | (with_reducible exact ih1 _ _ _ _ _ _ _ _)
   | (with_reducible exact ih2 _ _ _ _)
   | (with_reducible exact ih3 _)
   | (with_reducible exact ih4 _ _ _ _ _ _ _ _)
   | (with_reducible exact impl_CostBy.mono _ _ _)
   | (with_reducible exact impl_GoodLengths.mono _ _)
   | (with_reducible exact impl_KraftOf.mono _ _)
   | (with_reducible exact impl_LengthsOf.mono _ _)
   | (with_reducible exact laws_sameInts.mono _ _ _)
   | (with_reducible exact spec_CostBy.mono _ _ _)
   | (with_reducible exact spec_DrawCostBy.mono _ _)
   | (with_reducible exact spec_DrawKraftOf.mono _ _)
   | (with_reducible exact spec_DrawLengthsOf.mono _ _)
   | (with_reducible exact spec_GoodLengths.mono _ _)
   | (with_reducible exact spec_KraftOf.mono _ _)
   | (with_reducible exact spec_LengthsOf.mono _ _)
   | (with_reducible exact LeO.refl _)
   | (with_reducible exact LeO.none _)
   | (with_reducible refine LeO.ite ?_ ?_)
   | (with_reducible refine LeO.bind ?_ (fun _=>?_))
   | exact ih0 _ _ _ _ _
   | exact ih1 _ _ _ _ _ _ _ _
   | exact ih2 _ _ _ _
   | exact ih3 _
   | exact ih4 _ _ _ _ _ _ _ _
   | exact impl_CostBy.mono _ _ _
   | exact impl_GoodLengths.mono _ _
   | exact impl_KraftOf.mono _ _
   | exact impl_LengthsOf.mono _ _
   | exact laws_sameInts.mono _ _ _
   | exact spec_CostBy.mono _ _ _
   | exact spec_DrawCostBy.mono _ _
   | exact spec_DrawKraftOf.mono _ _
   | exact spec_DrawLengthsOf.mono _ _
   | exact spec_GoodLengths.mono _ _
   | exact spec_KraftOf.mono _ _
   | exact spec_LengthsOf.mono _ _
   | exact LeO.none _
   | refine LeO.ite ?_ ?_
   | refine LeO.bind ?_ (fun _=>?_)
set_option maxHeartbeats 8000000 in
set_option maxRecDepth 100000 in
theorem laws_FnHuffman.calls (k:Nat) (A0:Option Addr) (c0:Nat) (l0:List Int) (A1:Option Addr) (c1:Nat) (l1:List Int) (r:Bool) (w:World) (hr0:Kd.C (Kd.int .u8) w A0 l0.length l0) (hc0:l0.length ≤ c0) (hr1:Kd.C (Kd.int .u8) w A1 l1.length l1) (hc1:l1.length ≤ c1) (h:laws_FnHuffman.f k l0 l1 = some r) :
  Calls Try.prog 5 #[.slice A0 l0.length c0,.slice A1 l1.length c1] w fun e w'=>e = .returned (.bool r) ∧ Below w.heap.size w w':=by
 have HR0:=Aside0.mk hr0
 have HC0:=Aside0.mk hc0
 clear hr0 hc0
 have HR1:=Aside0.mk hr1
 have HC1:=Aside0.mk hc1
 clear hr1 hc1
 have HB:=Aside0.mk (Below.refl w.heap.size w)
 have H:((laws_big.f l0 l1).bind fun t285=>(if t285 = true then (some true) else ((spec_DrawLengthsOf.f k l0).bind fun t286=>((impl_LengthsOf.f k t286).bind fun bt289=>((spec_LengthsOf.f k t286).bind fun bt293=>(if (bt289.2 != bt293.2) = true then (laws_FnHuffman.j0 k l1 t286 bt289.1 bt289.2 true) else ((laws_sameInts.f k bt289.1 bt293.1).bind fun t297=>(laws_FnHuffman.j0 k l1 t286 bt289.1 bt289.2 (!t297))))))))) = some r:=h
 clear h
 replace H:=Option.bind_eq_some_iff.mp H
 obtain ⟨t285,A30,H⟩:=H
 replace H:(if t285 = true then (some true) else ((spec_DrawLengthsOf.f k l0).bind fun t286=>((impl_LengthsOf.f k t286).bind fun bt289=>((spec_LengthsOf.f k t286).bind fun bt293=>(if (bt289.2 != bt293.2) = true then (laws_FnHuffman.j0 k l1 t286 bt289.1 bt289.2 true) else ((laws_sameInts.f k bt289.1 bt293.1).bind fun t297=>(laws_FnHuffman.j0 k l1 t286 bt289.1 bt289.2 (!t297)))))))) = some r:=H
 have A3:=Aside0.mk A30
 clear A30
 by_cases c4:t285 = true
 ·subst c4
  have H1:(some true) = some r:=by rw [if_pos rfl] at H;exact H
  clear H
  have H:=H1
  clear H1
  obtain rfl:=Option.some.inj H
  go_enter Try.func5,Try.ntmps5
  go_wp2_with (first|((with_reducible refine gate_callee (f:=6) rfl ?_);refine goesL_ (some 32) rfl rfl Try.func6 (by kernel_rfl) rfl #[.slice A0 l0.length c0,.slice A1 l1.length c1] rfl (by (try simp only [List.map_toArray,List.map_cons,List.map_nil]);first|done|rfl|(simp only [List.length_drop,List.length_take];rfl)) ?_;(with_reducible refine (laws_big.calls _ _ l0 _ _ l1 true _ ?side1 ?side2 ?side3 ?side4 A3.out).mono ?_);(case side1=>repeat (first|exact HR0.out|(with_reducible refine Kd.C_alloc ?_ _)|(with_reducible refine Kd.C_drewN ?_ _)|(with_reducible refine Kd.C_drew ?_)));(case side2=>exact HC0.out);(case side3=>repeat (first|exact HR1.out|(with_reducible refine Kd.C_alloc ?_ _)|(with_reducible refine Kd.C_drewN ?_ _)|(with_reducible refine Kd.C_drew ?_)));(case side4=>exact HC1.out);rintro e w' ⟨rfl,⟨nd,rfl⟩⟩;refine ⟨_,rfl,?_⟩))
  go_ret
  exact ⟨by first|rfl|(simp [errW_none,errW_some] <;> rfl)|(simp [*,errW_none,errW_some] <;> rfl),by repeat (first|(with_reducible first|exact HB.out|apply below_alloc|apply pw_below_drewN|apply below_drew1)|exact HB.out)⟩
 ·replace c4:=Bool.eq_false_iff.mpr c4
  subst c4
  have H1:((spec_DrawLengthsOf.f k l0).bind fun t286=>((impl_LengthsOf.f k t286).bind fun bt289=>((spec_LengthsOf.f k t286).bind fun bt293=>(if (bt289.2 != bt293.2) = true then (laws_FnHuffman.j0 k l1 t286 bt289.1 bt289.2 true) else ((laws_sameInts.f k bt289.1 bt293.1).bind fun t297=>(laws_FnHuffman.j0 k l1 t286 bt289.1 bt289.2 (!t297))))))) = some r:=by rw [if_neg (show ¬ (false = true) by decide)] at H;exact H
  clear H
  have H:=H1
  clear H1
  replace H:=Option.bind_eq_some_iff.mp H
  obtain ⟨t286,A50,H⟩:=H
  replace H:((impl_LengthsOf.f k t286).bind fun bt289=>((spec_LengthsOf.f k t286).bind fun bt293=>(if (bt289.2 != bt293.2) = true then (laws_FnHuffman.j0 k l1 t286 bt289.1 bt289.2 true) else ((laws_sameInts.f k bt289.1 bt293.1).bind fun t297=>(laws_FnHuffman.j0 k l1 t286 bt289.1 bt289.2 (!t297)))))) = some r:=H
  have A5:=Aside0.mk A50
  clear A50
  replace H:=Option.bind_eq_some_iff.mp H
  obtain ⟨⟨t289,t290⟩,A60,H⟩:=H
  replace H:((spec_LengthsOf.f k t286).bind fun bt293=>(if (t290 != bt293.2) = true then (laws_FnHuffman.j0 k l1 t286 t289 t290 true) else ((laws_sameInts.f k t289 bt293.1).bind fun t297=>(laws_FnHuffman.j0 k l1 t286 t289 t290 (!t297))))) = some r:=H
  have A6:=Aside0.mk A60
  clear A60
  replace H:=Option.bind_eq_some_iff.mp H
  obtain ⟨⟨t293,t294⟩,A70,H⟩:=H
  replace H:(if (t290 != t294) = true then (laws_FnHuffman.j0 k l1 t286 t289 t290 true) else ((laws_sameInts.f k t289 t293).bind fun t297=>(laws_FnHuffman.j0 k l1 t286 t289 t290 (!t297)))) = some r:=H
  have A7:=Aside0.mk A70
  clear A70
  have HC8:=Aside0.mk H
  clear H
  go_enter Try.func5,Try.ntmps5
  go_upto_region 6 with (first|((with_reducible refine gate_callee (f:=6) rfl ?_);refine goesL_ (some 32) rfl rfl Try.func6 (by kernel_rfl) rfl #[.slice A0 l0.length c0,.slice A1 l1.length c1] rfl (by (try simp only [List.map_toArray,List.map_cons,List.map_nil]);first|done|rfl|(simp only [List.length_drop,List.length_take];rfl)) ?_;(with_reducible refine (laws_big.calls _ _ l0 _ _ l1 false _ ?side1 ?side2 ?side3 ?side4 A3.out).mono ?_);(case side1=>repeat (first|exact HR0.out|(with_reducible refine Kd.C_alloc ?_ _)|(with_reducible refine Kd.C_drewN ?_ _)|(with_reducible refine Kd.C_drew ?_)));(case side2=>exact HC0.out);(case side3=>repeat (first|exact HR1.out|(with_reducible refine Kd.C_alloc ?_ _)|(with_reducible refine Kd.C_drewN ?_ _)|(with_reducible refine Kd.C_drew ?_)));(case side4=>exact HC1.out);rintro e w' ⟨rfl,⟨nd,rfl⟩⟩;refine ⟨_,rfl,?_⟩)|((with_reducible refine gate_callee (f:=32) rfl ?_);refine goesL_ (some 34) rfl rfl Try.func32 (by kernel_rfl) rfl #[.slice A0 l0.length c0] rfl (by (try simp only [List.map_toArray,List.map_cons,List.map_nil]);first|done|rfl|(simp only [List.length_drop,List.length_take];rfl)) ?_;(with_reducible refine (spec_DrawLengthsOf.calls k _ _ l0 t286 _ ?side1 ?side2 A5.out).mono ?_);(case side1=>repeat (first|exact HR0.out|(with_reducible refine Kd.C_alloc ?_ _)|(with_reducible refine Kd.C_drewN ?_ _)|(with_reducible refine Kd.C_drew ?_)));(case side2=>exact HC0.out);rintro e w9 ⟨v287,rfl,ho0,hb⟩;refine ⟨_,rfl,?_⟩;have n0_:=Aside0.mk (Kd.R_lower ho0 (below_size (by repeat (first|(with_reducible first|exact HB.out|apply below_alloc|apply pw_below_drewN|apply below_drew1)|exact HB.out))));have n1_:=Aside0.mk (below_step (by repeat (first|(with_reducible first|exact HB.out|apply below_alloc|apply pw_below_drewN|apply below_drew1)|exact HB.out)) hb);clear HB;have HO288:=n0_;have HB:=n1_;clear n0_ n1_;(try clear hb);(try clear hb2);(try clear hk);(try clear hi);(try clear ho0);obtain ⟨Ao10,co10,eo10⟩:=Kd.R_slice HO288.out;subst eo10)|((with_reducible refine gate_callee (f:=28) rfl ?_);refine goesL_ (some 37) rfl rfl Try.func28 (by kernel_rfl) rfl #[.slice Ao10 t286.length co10] rfl (by (try simp only [List.map_toArray,List.map_cons,List.map_nil]);first|done|rfl|(simp only [List.length_drop,List.length_take];rfl)) ?_;(with_reducible refine (impl_LengthsOf.calls k _ _ t286 t289 t290 _ ?side1 ?side2 A6.out).mono ?_);(case side1=>repeat (first|exact (Kd.R_reads' HO288.out).2.2|(with_reducible refine Kd.C_alloc ?_ _)|(with_reducible refine Kd.C_drewN ?_ _)|(with_reducible refine Kd.C_drew ?_)));(case side2=>exact (Kd.R_reads' HO288.out).2.1);rintro e w11 ⟨v291,rfl,ho0,hb⟩;refine ⟨_,rfl,?_⟩;have n0_:=Aside0.mk (Kd.R_elder' (by (with_reducible repeat (first|apply Kd.R_alloc|apply Kd.R_drewN|apply Kd.R_drew));exact HO288.out) (Kd.R_base ho0) hb);have n1_:=Aside0.mk (Kd.R_lower (Kd.R_new' ho0 (Kd.R_lt (by (with_reducible repeat (first|apply Kd.R_alloc|apply Kd.R_drewN|apply Kd.R_drew));exact HO288.out))) (below_size (by repeat (first|(with_reducible first|exact HB.out|apply below_alloc|apply pw_below_drewN|apply below_drew1)|exact HB.out))));have n2_:=Aside0.mk (below_step (by repeat (first|(with_reducible first|exact HB.out|apply below_alloc|apply pw_below_drewN|apply below_drew1)|exact HB.out)) hb);clear HO288;clear HB;have HO288:=n0_;have HO292:=n1_;have HB:=n2_;clear n0_ n1_ n2_;(try clear hb);(try clear hb2);(try clear hk);(try clear hi);(try clear ho0))|((with_reducible refine gate_callee (f:=26) rfl ?_);refine goesL_ (some 42) rfl rfl Try.func26 (by kernel_rfl) rfl #[.slice Ao10 t286.length co10] rfl (by (try simp only [List.map_toArray,List.map_cons,List.map_nil]);first|done|rfl|(simp only [List.length_drop,List.length_take];rfl)) ?_;(with_reducible refine (spec_LengthsOf.calls k _ _ t286 t293 t294 _ ?side1 ?side2 A7.out).mono ?_);(case side1=>repeat (first|exact (Kd.R_reads' HO288.out).2.2|(with_reducible refine Kd.C_alloc ?_ _)|(with_reducible refine Kd.C_drewN ?_ _)|(with_reducible refine Kd.C_drew ?_)));(case side2=>exact (Kd.R_reads' HO288.out).2.1);rintro e w12 ⟨v295,rfl,ho0,hb⟩;refine ⟨_,rfl,?_⟩;have n0_:=Aside0.mk (Kd.R_elder' (by (with_reducible repeat (first|apply Kd.R_alloc|apply Kd.R_drewN|apply Kd.R_drew));exact HO288.out) (Kd.R_base ho0) hb);have n1_:=Aside0.mk (Kd.R_elder' (by (with_reducible repeat (first|apply Kd.R_alloc|apply Kd.R_drewN|apply Kd.R_drew));exact HO292.out) (Kd.R_base ho0) hb);have n2_:=Aside0.mk (Kd.R_lower (Kd.R_new' (Kd.R_new' ho0 (Kd.R_lt (by (with_reducible repeat (first|apply Kd.R_alloc|apply Kd.R_drewN|apply Kd.R_drew));exact HO288.out))) (Kd.R_lt (by (with_reducible repeat (first|apply Kd.R_alloc|apply Kd.R_drewN|apply Kd.R_drew));exact HO292.out))) (below_size (by repeat (first|(with_reducible first|exact HB.out|apply below_alloc|apply pw_below_drewN|apply below_drew1)|exact HB.out))));have n3_:=Aside0.mk (below_step (by repeat (first|(with_reducible first|exact HB.out|apply below_alloc|apply pw_below_drewN|apply below_drew1)|exact HB.out)) hb);clear HO288;clear HO292;clear HB;have HO288:=n0_;have HO292:=n1_;have HO296:=n2_;have HB:=n3_;clear n0_ n1_ n2_ n3_;(try clear hb);(try clear hb2);(try clear hk);(try clear hi);(try clear ho0)))
  (try simp only [Act.put,List.setIfInBounds_toArray,List.set_cons_zero,List.set_cons_succ])
  go_cut [53] (fun v53 wc=>∃ (kq:Nat) (x53_7:Bool),v53 = .bool x53_7 ∧ Aside0 (laws_FnHuffman.j0 kq l1 t286 t289 t290 x53_7 = some r) ∧ Aside0 (kq ≤ k) ∧ Aside0 (Kd.R (Kd.int .i64) 3 wc w.heap.size (fun k_=>some k_ ≠ (v291:Value).ownBlock) (.slice Ao10 t286.length co10) t286) ∧ Aside0 (Kd.R (Kd.int .i64) 3 wc w.heap.size (fun k_=>some k_ ≠ ((.slice Ao10 t286.length co10):Value).ownBlock) v291 t289) ∧ Aside0 (Below w.heap.size w wc))
  case first =>
   have H:=HC8.out
   clear HC8
   by_cases c13:(t290 != t294) = true
   ·rw [if_pos c13] at H
    have c13b0:(t290 != t294) = true:=c13
    (try (have c13b1:decide (t290 = t294) = false:=by simpa using c13))
    (try (have c13b2:(t290 == t294) = false:=by simpa using c13))
    (try (have c13b3:¬ (t290 = t294):=by simpa using c13))
    clear c13
    (first|rw [c13b0]|(simp only [i64_w,i32_w];rw [c13b0])|skip)
    have H':=Aside0.mk H
    clear H
    go_wp2
    go_meet
    case rel=>exact ⟨_,(true),(by first|rfl|(simp;done)|(simp [*];done)),H',⟨by first|omega|exact Nat.le_refl _⟩,⟨by (with_reducible repeat (first|apply Kd.R_alloc|apply Kd.R_drewN|apply Kd.R_drew));exact Kd.R_mono HO288.out (fun _ hk=>hk.1.2)⟩,⟨by (with_reducible repeat (first|apply Kd.R_alloc|apply Kd.R_drewN|apply Kd.R_drew));exact Kd.R_mono HO292.out (fun _ hk=>hk.1.2)⟩,⟨by repeat (first|(with_reducible first|exact HB.out|apply below_alloc|apply pw_below_drewN|apply below_drew1)|exact HB.out)⟩⟩
   ·rw [if_neg c13] at H
    have c13b0:(t290 != t294) = false:=by simpa using c13
    (try (have c13b1:decide (t290 = t294) = true:=by simpa using c13))
    (try (have c13b2:(t290 == t294) = true:=by simpa using c13))
    clear c13
    (first|rw [c13b0]|(simp only [i64_w,i32_w];rw [c13b0])|skip)
    replace H:=Option.bind_eq_some_iff.mp H
    obtain ⟨t297,A140,H⟩:=H
    replace H:(laws_FnHuffman.j0 k l1 t286 t289 t290 (!t297)) = some r:=H
    have A14:=Aside0.mk A140
    clear A140
    have H':=Aside0.mk H
    clear H
    obtain ⟨Ao15,co15,eo15⟩:=Kd.R_slice HO292.out
    subst eo15
    obtain ⟨Ao16,co16,eo16⟩:=Kd.R_slice HO296.out
    subst eo16
    go_wp2_with (first|(go_at_call 33;(with_reducible refine (laws_sameInts.calls k _ _ t289 _ _ t293 t297 _ ?side1 ?side2 ?side3 ?side4 A14.out).mono ?_);(case side1=>repeat (first|exact (Kd.R_reads' HO292.out).2.2|(with_reducible refine Kd.C_alloc ?_ _)|(with_reducible refine Kd.C_drewN ?_ _)|(with_reducible refine Kd.C_drew ?_)));(case side2=>exact (Kd.R_reads' HO292.out).2.1);(case side3=>repeat (first|exact (Kd.R_reads' HO296.out).2.2|(with_reducible refine Kd.C_alloc ?_ _)|(with_reducible refine Kd.C_drewN ?_ _)|(with_reducible refine Kd.C_drew ?_)));(case side4=>exact (Kd.R_reads' HO296.out).2.1);rintro e w' ⟨rfl,⟨nd,rfl⟩⟩))
    go_meet
    case rel=>exact ⟨_,(!t297),(by first|rfl|(simp;done)|(simp [*];done)),H',⟨by first|omega|exact Nat.le_refl _⟩,⟨by (with_reducible repeat (first|apply Kd.R_alloc|apply Kd.R_drewN|apply Kd.R_drew));exact Kd.R_mono HO288.out (fun _ hk=>hk.1.2)⟩,⟨by (with_reducible repeat (first|apply Kd.R_alloc|apply Kd.R_drewN|apply Kd.R_drew));exact Kd.R_mono HO292.out (fun _ hk=>hk.1.2)⟩,⟨by repeat (first|(with_reducible first|exact HB.out|apply below_alloc|apply pw_below_drewN|apply below_drew1)|exact HB.out)⟩⟩
  case rest =>
   clear HC8
   try clear c1
   try clear c2
   try clear p2
   try clear c3
   try clear c4
   try clear c5
   try clear c6
   try clear c13
   try clear c13b0
   try clear c13b1
   try clear c13b2
   obtain ⟨kq,x53_7,rfl,HA,HJ7,HO_5,HO_6,HB⟩:=hcut
   cases kq with
   | zero=>exact absurd HA.out (by simp [laws_FnHuffman.j0])
   | succ kj7 =>
    have H:=HA.out
    clear HA
    simp only [laws_FnHuffman.j0] at H
    by_cases c17:x53_7 = true
    ·subst c17
     have H1:(some false) = some r:=by rw [if_pos rfl] at H;exact H
     clear H
     have H:=H1
     clear H1
     obtain rfl:=Option.some.inj H
     go_wp2
     go_ret
     exact ⟨by first|rfl|(simp [errW_none,errW_some] <;> rfl)|(simp [*,errW_none,errW_some] <;> rfl),by repeat (first|(with_reducible first|exact HB.out|apply below_alloc|apply pw_below_drewN|apply below_drew1)|exact HB.out)⟩
    ·replace c17:=Bool.eq_false_iff.mpr c17
     subst c17
     have H1:((spec_DrawCostBy.f kj7 l1).bind fun bt298=>((impl_CostBy.f kj7 bt298.1 bt298.2).bind fun bt304=>((spec_CostBy.f kj7 bt298.1 bt298.2).bind fun bt306=>(if (bt304.2 != bt306.2) = true then (laws_FnHuffman.j1 kj7 l1 t286 t289 t290 bt298.2 bt304.1 bt304.2 true) else (laws_FnHuffman.j1 kj7 l1 t286 t289 t290 bt298.2 bt304.1 bt304.2 (bt304.1 != bt306.1)))))) = some r:=by rw [if_neg (show ¬ (false = true) by decide)] at H;exact H
     clear H
     have H:=H1
     clear H1
     replace H:=Option.bind_eq_some_iff.mp H
     obtain ⟨⟨t298,t299⟩,A180,H⟩:=H
     replace H:((impl_CostBy.f kj7 t298 t299).bind fun bt304=>((spec_CostBy.f kj7 t298 t299).bind fun bt306=>(if (bt304.2 != bt306.2) = true then (laws_FnHuffman.j1 kj7 l1 t286 t289 t290 t299 bt304.1 bt304.2 true) else (laws_FnHuffman.j1 kj7 l1 t286 t289 t290 t299 bt304.1 bt304.2 (bt304.1 != bt306.1))))) = some r:=H
     have A18:=Aside0.mk A180
     clear A180
     replace H:=Option.bind_eq_some_iff.mp H
     obtain ⟨⟨t304,t305⟩,A190,H⟩:=H
     replace H:((spec_CostBy.f kj7 t298 t299).bind fun bt306=>(if (t305 != bt306.2) = true then (laws_FnHuffman.j1 kj7 l1 t286 t289 t290 t299 t304 t305 true) else (laws_FnHuffman.j1 kj7 l1 t286 t289 t290 t299 t304 t305 (t304 != bt306.1)))) = some r:=H
     have A19:=Aside0.mk A190
     clear A190
     replace H:=Option.bind_eq_some_iff.mp H
     obtain ⟨⟨t306,t307⟩,A200,H⟩:=H
     replace H:(if (t305 != t307) = true then (laws_FnHuffman.j1 kj7 l1 t286 t289 t290 t299 t304 t305 true) else (laws_FnHuffman.j1 kj7 l1 t286 t289 t290 t299 t304 t305 (t304 != t306))) = some r:=H
     have A20:=Aside0.mk A200
     clear A200
     have HC21:=Aside0.mk H
     clear H
     go_upto_region 11 with (first|((with_reducible refine gate_callee (f:=34) rfl ?_);refine goesL_ (some 56) rfl rfl Try.func34 (by kernel_rfl) rfl #[.slice A1 l1.length c1] rfl (by (try simp only [List.map_toArray,List.map_cons,List.map_nil]);first|done|rfl|(simp only [List.length_drop,List.length_take];rfl)) ?_;(with_reducible refine (spec_DrawCostBy.calls kj7 _ _ l1 t298 t299 _ ?side1 ?side2 A18.out).mono ?_);(case side1=>repeat (first|exact (Kd.C_below HR1.out HB.out)|(with_reducible refine Kd.C_alloc ?_ _)|(with_reducible refine Kd.C_drewN ?_ _)|(with_reducible refine Kd.C_drew ?_)));(case side2=>exact HC1.out);rintro e w22 ⟨v300,v302,rfl,ho0,ho1,hb⟩;refine ⟨_,rfl,?_⟩;have n0_:=Aside0.mk (Kd.R_mono (Kd.R_told (Kd.R_told (Kd.R_old (by (with_reducible repeat (first|apply Kd.R_alloc|apply Kd.R_drewN|apply Kd.R_drew));exact HO_5.out) hb) (Kd.R_base ho0)) (Kd.R_base ho1)) (fun _ h_=>h_.1));have n1_:=Aside0.mk (Kd.R_mono (Kd.R_told (Kd.R_told (Kd.R_old (by (with_reducible repeat (first|apply Kd.R_alloc|apply Kd.R_drewN|apply Kd.R_drew));exact HO_6.out) hb) (Kd.R_base ho0)) (Kd.R_base ho1)) (fun _ h_=>h_.1));have n2_:=Aside0.mk (Kd.R_lower (Kd.R_new' (Kd.R_new' ho0 (Kd.R_lt (by (with_reducible repeat (first|apply Kd.R_alloc|apply Kd.R_drewN|apply Kd.R_drew));exact HO_5.out))) (Kd.R_lt (by (with_reducible repeat (first|apply Kd.R_alloc|apply Kd.R_drewN|apply Kd.R_drew));exact HO_6.out))) (below_size (by repeat (first|(with_reducible first|exact HB.out|apply below_alloc|apply pw_below_drewN|apply below_drew1)|exact HB.out))));have n3_:=Aside0.mk (Kd.R_lower (Kd.R_new' (Kd.R_new' ho1 (Kd.R_lt (by (with_reducible repeat (first|apply Kd.R_alloc|apply Kd.R_drewN|apply Kd.R_drew));exact HO_5.out))) (Kd.R_lt (by (with_reducible repeat (first|apply Kd.R_alloc|apply Kd.R_drewN|apply Kd.R_drew));exact HO_6.out))) (below_size (by repeat (first|(with_reducible first|exact HB.out|apply below_alloc|apply pw_below_drewN|apply below_drew1)|exact HB.out))));have n4_:=Aside0.mk (below_step (by repeat (first|(with_reducible first|exact HB.out|apply below_alloc|apply pw_below_drewN|apply below_drew1)|exact HB.out)) hb);clear HO_5;clear HO_6;clear HB;have HO_5:=n0_;have HO_6:=n1_;have HO301:=n2_;have HO303:=n3_;have HB:=n4_;clear n0_ n1_ n2_ n3_ n4_;(try clear hb);(try clear hb2);(try clear hk);(try clear hi);(try clear ho0);(try clear ho1);obtain ⟨Ao23,co23,eo23⟩:=Kd.R_slice HO301.out;subst eo23;obtain ⟨Ao24,co24,eo24⟩:=Kd.R_slice HO303.out;subst eo24)|((with_reducible refine gate_callee (f:=35) rfl ?_);refine goesL_ (some 62) rfl rfl Try.func35 (by kernel_rfl) rfl #[.slice Ao23 t298.length co23,.slice Ao24 t299.length co24] rfl (by (try simp only [List.map_toArray,List.map_cons,List.map_nil]);first|done|rfl|(simp only [List.length_drop,List.length_take];rfl)) ?_;(with_reducible refine (impl_CostBy.calls kj7 _ _ t298 _ _ t299 t304 t305 _ ?side1 ?side2 ?side3 ?side4 A19.out).mono ?_);(case side1=>repeat (first|exact (Kd.R_reads' HO301.out).2.2|(with_reducible refine Kd.C_alloc ?_ _)|(with_reducible refine Kd.C_drewN ?_ _)|(with_reducible refine Kd.C_drew ?_)));(case side2=>exact (Kd.R_reads' HO301.out).2.1);(case side3=>repeat (first|exact (Kd.R_reads' HO303.out).2.2|(with_reducible refine Kd.C_alloc ?_ _)|(with_reducible refine Kd.C_drewN ?_ _)|(with_reducible refine Kd.C_drew ?_)));(case side4=>exact (Kd.R_reads' HO303.out).2.1);rintro e w25 ⟨rfl,hb⟩;refine ⟨_,rfl,?_⟩;have n0_:=Aside0.mk (Kd.R_below (by (with_reducible repeat (first|apply Kd.R_alloc|apply Kd.R_drewN|apply Kd.R_drew));exact HO_5.out) hb);have n1_:=Aside0.mk (Kd.R_below (by (with_reducible repeat (first|apply Kd.R_alloc|apply Kd.R_drewN|apply Kd.R_drew));exact HO_6.out) hb);have n2_:=Aside0.mk (Kd.R_below (by (with_reducible repeat (first|apply Kd.R_alloc|apply Kd.R_drewN|apply Kd.R_drew));exact HO301.out) hb);have n3_:=Aside0.mk (Kd.R_below (by (with_reducible repeat (first|apply Kd.R_alloc|apply Kd.R_drewN|apply Kd.R_drew));exact HO303.out) hb);have n4_:=Aside0.mk (below_step (by repeat (first|(with_reducible first|exact HB.out|apply below_alloc|apply pw_below_drewN|apply below_drew1)|exact HB.out)) hb);clear HO_5;clear HO_6;clear HO301;clear HO303;clear HB;have HO_5:=n0_;have HO_6:=n1_;have HO301:=n2_;have HO303:=n3_;have HB:=n4_;clear n0_ n1_ n2_ n3_ n4_;(try clear hb);(try clear hb2);(try clear hk);(try clear hi))|((with_reducible refine gate_callee (f:=36) rfl ?_);refine goesL_ (some 68) rfl rfl Try.func36 (by kernel_rfl) rfl #[.slice Ao23 t298.length co23,.slice Ao24 t299.length co24] rfl (by (try simp only [List.map_toArray,List.map_cons,List.map_nil]);first|done|rfl|(simp only [List.length_drop,List.length_take];rfl)) ?_;(with_reducible refine (spec_CostBy.calls kj7 _ _ t298 _ _ t299 t306 t307 _ ?side1 ?side2 ?side3 ?side4 A20.out).mono ?_);(case side1=>repeat (first|exact (Kd.R_reads' HO301.out).2.2|(with_reducible refine Kd.C_alloc ?_ _)|(with_reducible refine Kd.C_drewN ?_ _)|(with_reducible refine Kd.C_drew ?_)));(case side2=>exact (Kd.R_reads' HO301.out).2.1);(case side3=>repeat (first|exact (Kd.R_reads' HO303.out).2.2|(with_reducible refine Kd.C_alloc ?_ _)|(with_reducible refine Kd.C_drewN ?_ _)|(with_reducible refine Kd.C_drew ?_)));(case side4=>exact (Kd.R_reads' HO303.out).2.1);rintro e w' ⟨rfl,⟨nd,rfl⟩⟩;refine ⟨_,rfl,?_⟩))
     (try simp only [Act.put,List.setIfInBounds_toArray,List.set_cons_zero,List.set_cons_succ])
     go_cut [78] (fun v78 wc=>∃ (kq:Nat) (x78_20:Bool),v78 = .bool x78_20 ∧ Aside0 (laws_FnHuffman.j1 kq l1 t286 t289 t290 t299 t304 t305 x78_20 = some r) ∧ Aside0 (kq ≤ kj7) ∧ Aside0 (Kd.R (Kd.int .i64) 3 wc w.heap.size (fun k_=>some k_ ≠ (v291:Value).ownBlock ∧ some k_ ≠ ((.slice Ao24 t299.length co24):Value).ownBlock) (.slice Ao10 t286.length co10) t286) ∧ Aside0 (Kd.R (Kd.int .i64) 3 wc w.heap.size (fun k_=>some k_ ≠ ((.slice Ao10 t286.length co10):Value).ownBlock ∧ some k_ ≠ ((.slice Ao24 t299.length co24):Value).ownBlock) v291 t289) ∧ Aside0 (Kd.R (Kd.int .i64) 3 wc w.heap.size (fun k_=>some k_ ≠ ((.slice Ao10 t286.length co10):Value).ownBlock ∧ some k_ ≠ (v291:Value).ownBlock) (.slice Ao24 t299.length co24) t299) ∧ Aside0 (Below w.heap.size w wc))
     case first =>
      have H:=HC21.out
      clear HC21
      by_cases c26:(t305 != t307) = true
      ·rw [if_pos c26] at H
       have c26b0:(t305 != t307) = true:=c26
       (try (have c26b1:decide (t305 = t307) = false:=by simpa using c26))
       (try (have c26b2:(t305 == t307) = false:=by simpa using c26))
       (try (have c26b3:¬ (t305 = t307):=by simpa using c26))
       clear c26
       (first|rw [c26b0]|(simp only [i64_w,i32_w];rw [c26b0])|skip)
       have H':=Aside0.mk H
       clear H
       go_wp2
       go_meet
       case rel=>exact ⟨_,(true),(by first|rfl|(simp;done)|(simp [*];done)),H',⟨by have:=HJ7.out;first|omega|exact Nat.le_refl _⟩,⟨by (with_reducible repeat (first|apply Kd.R_alloc|apply Kd.R_drewN|apply Kd.R_drew));exact Kd.R_mono HO_5.out (fun _ hk=>⟨hk.1.1,hk.2⟩)⟩,⟨by (with_reducible repeat (first|apply Kd.R_alloc|apply Kd.R_drewN|apply Kd.R_drew));exact Kd.R_mono HO_6.out (fun _ hk=>⟨hk.1.1,hk.2⟩)⟩,⟨by (with_reducible repeat (first|apply Kd.R_alloc|apply Kd.R_drewN|apply Kd.R_drew));exact Kd.R_mono HO303.out (fun _ hk=>⟨hk.1.2,hk.2⟩)⟩,⟨by repeat (first|(with_reducible first|exact HB.out|apply below_alloc|apply pw_below_drewN|apply below_drew1)|exact HB.out)⟩⟩
      ·rw [if_neg c26] at H
       have c26b0:(t305 != t307) = false:=by simpa using c26
       (try (have c26b1:decide (t305 = t307) = true:=by simpa using c26))
       (try (have c26b2:(t305 == t307) = true:=by simpa using c26))
       clear c26
       (first|rw [c26b0]|(simp only [i64_w,i32_w];rw [c26b0])|skip)
       have H':=Aside0.mk H
       clear H
       go_wp2
       go_meet
       case rel=>exact ⟨_,((t304 != t306)),(by first|rfl|(simp;done)|(simp [*];done)),H',⟨by have:=HJ7.out;first|omega|exact Nat.le_refl _⟩,⟨by (with_reducible repeat (first|apply Kd.R_alloc|apply Kd.R_drewN|apply Kd.R_drew));exact Kd.R_mono HO_5.out (fun _ hk=>⟨hk.1.1,hk.2⟩)⟩,⟨by (with_reducible repeat (first|apply Kd.R_alloc|apply Kd.R_drewN|apply Kd.R_drew));exact Kd.R_mono HO_6.out (fun _ hk=>⟨hk.1.1,hk.2⟩)⟩,⟨by (with_reducible repeat (first|apply Kd.R_alloc|apply Kd.R_drewN|apply Kd.R_drew));exact Kd.R_mono HO303.out (fun _ hk=>⟨hk.1.2,hk.2⟩)⟩,⟨by repeat (first|(with_reducible first|exact HB.out|apply below_alloc|apply pw_below_drewN|apply below_drew1)|exact HB.out)⟩⟩
     case rest =>
      clear HC21
      try clear c1
      try clear c2
      try clear p2
      try clear c3
      try clear c4
      try clear c5
      try clear c6
      try clear c13
      try clear c13b0
      try clear c13b1
      try clear c13b2
      try clear c17
      try clear c26
      try clear c26b0
      try clear c26b1
      try clear c26b2
      try clear p2
      obtain ⟨kq,x78_20,rfl,HA,HJ20,HO_5,HO_6,HO_11,HB⟩:=hcut
      cases kq with
      | zero=>exact absurd HA.out (by simp [laws_FnHuffman.j1])
      | succ kj20 =>
       have H:=HA.out
       clear HA
       simp only [laws_FnHuffman.j1] at H
       by_cases c27:x78_20 = true
       ·subst c27
        have H1:(some false) = some r:=by rw [if_pos rfl] at H;exact H
        clear H
        have H:=H1
        clear H1
        obtain rfl:=Option.some.inj H
        go_wp2
        go_ret
        exact ⟨by first|rfl|(simp [errW_none,errW_some] <;> rfl)|(simp [*,errW_none,errW_some] <;> rfl),by repeat (first|(with_reducible first|exact HB.out|apply below_alloc|apply pw_below_drewN|apply below_drew1)|exact HB.out)⟩
       ·replace c27:=Bool.eq_false_iff.mpr c27
        subst c27
        have H1:(if t305 = true then ((impl_LengthsOf.f kj20 t299).bind fun bt308=>((impl_CostBy.f kj20 bt308.1 t299).bind fun bt312=>(if bt308.2 = true then (if bt312.2 = true then (if bt312.1 > t304 then (some false) else (laws_FnHuffman.j2 kj20 l1 t286 t289 t290)) else (some false)) else (some false)))) else (laws_FnHuffman.j2 kj20 l1 t286 t289 t290)) = some r:=by rw [if_neg (show ¬ (false = true) by decide)] at H;exact H
        clear H
        have H:=H1
        clear H1
        have HC28:=Aside0.mk H
        clear H
        go_upto_if 79 with (fail)
        go_cut [] (fun wc=>∃ (kq:Nat),Aside0 (laws_FnHuffman.j2 kq l1 t286 t289 t290 = some r) ∧ Aside0 (kq ≤ kj20) ∧ Aside0 (Kd.R (Kd.int .i64) 3 wc w.heap.size (fun k_=>some k_ ≠ (v291:Value).ownBlock) (.slice Ao10 t286.length co10) t286) ∧ Aside0 (Kd.R (Kd.int .i64) 3 wc w.heap.size (fun k_=>some k_ ≠ ((.slice Ao10 t286.length co10):Value).ownBlock) v291 t289) ∧ Aside0 (Below w.heap.size w wc))
        case first =>
         have H:=HC28.out
         clear HC28
         by_cases c29:t305 = true
         ·subst c29
          have H1:((impl_LengthsOf.f kj20 t299).bind fun bt308=>((impl_CostBy.f kj20 bt308.1 t299).bind fun bt312=>(if bt308.2 = true then (if bt312.2 = true then (if bt312.1 > t304 then (some false) else (laws_FnHuffman.j2 kj20 l1 t286 t289 t290)) else (some false)) else (some false)))) = some r:=by rw [if_pos rfl] at H;exact H
          clear H
          have H:=H1
          clear H1
          replace H:=Option.bind_eq_some_iff.mp H
          obtain ⟨⟨t308,t309⟩,A300,H⟩:=H
          replace H:((impl_CostBy.f kj20 t308 t299).bind fun bt312=>(if t309 = true then (if bt312.2 = true then (if bt312.1 > t304 then (some false) else (laws_FnHuffman.j2 kj20 l1 t286 t289 t290)) else (some false)) else (some false))) = some r:=H
          have A30:=Aside0.mk A300
          clear A300
          replace H:=Option.bind_eq_some_iff.mp H
          obtain ⟨⟨t312,t313⟩,A310,H⟩:=H
          replace H:(if t309 = true then (if t313 = true then (if t312 > t304 then (some false) else (laws_FnHuffman.j2 kj20 l1 t286 t289 t290)) else (some false)) else (some false)) = some r:=H
          have A31:=Aside0.mk A310
          clear A310
          by_cases c32:t309 = true
          ·subst c32
           have H1:(if t313 = true then (if t312 > t304 then (some false) else (laws_FnHuffman.j2 kj20 l1 t286 t289 t290)) else (some false)) = some r:=by rw [if_pos rfl] at H;exact H
           clear H
           have H:=H1
           clear H1
           by_cases c33:t313 = true
           ·subst c33
            have H1:(if t312 > t304 then (some false) else (laws_FnHuffman.j2 kj20 l1 t286 t289 t290)) = some r:=by rw [if_pos rfl] at H;exact H
            clear H
            have H:=H1
            clear H1
            by_cases c34:t312 > t304
            ·rw [if_pos c34] at H
             have c34b0:decide (t304 < t312) = true:=decide_eq_true c34
             clear c34
             (first|rw [c34b0]|(simp only [i64_w,i32_w];rw [c34b0])|skip)
             obtain rfl:=Option.some.inj H
             go_wp2_with (first|((with_reducible refine gate_callee (f:=28) rfl ?_);refine goesL_ (some 82) rfl rfl Try.func28 (by kernel_rfl) rfl #[.slice Ao24 t299.length co24] rfl (by (try simp only [List.map_toArray,List.map_cons,List.map_nil]);first|done|rfl|(simp only [List.length_drop,List.length_take];rfl)) ?_;(with_reducible refine (impl_LengthsOf.calls kj20 _ _ t299 t308 true _ ?side1 ?side2 A30.out).mono ?_);(case side1=>repeat (first|exact (Kd.R_reads' HO_11.out).2.2|(with_reducible refine Kd.C_alloc ?_ _)|(with_reducible refine Kd.C_drewN ?_ _)|(with_reducible refine Kd.C_drew ?_)));(case side2=>exact (Kd.R_reads' HO_11.out).2.1);rintro e w35 ⟨v310,rfl,ho0,hb⟩;refine ⟨_,rfl,?_⟩;have n0_:=Aside0.mk (Kd.R_elder' (by (with_reducible repeat (first|apply Kd.R_alloc|apply Kd.R_drewN|apply Kd.R_drew));exact HO_5.out) (Kd.R_base ho0) hb);have n1_:=Aside0.mk (Kd.R_elder' (by (with_reducible repeat (first|apply Kd.R_alloc|apply Kd.R_drewN|apply Kd.R_drew));exact HO_6.out) (Kd.R_base ho0) hb);have n2_:=Aside0.mk (Kd.R_elder' (by (with_reducible repeat (first|apply Kd.R_alloc|apply Kd.R_drewN|apply Kd.R_drew));exact HO_11.out) (Kd.R_base ho0) hb);have n3_:=Aside0.mk (Kd.R_lower (Kd.R_new' (Kd.R_new' (Kd.R_new' ho0 (Kd.R_lt (by (with_reducible repeat (first|apply Kd.R_alloc|apply Kd.R_drewN|apply Kd.R_drew));exact HO_5.out))) (Kd.R_lt (by (with_reducible repeat (first|apply Kd.R_alloc|apply Kd.R_drewN|apply Kd.R_drew));exact HO_6.out))) (Kd.R_lt (by (with_reducible repeat (first|apply Kd.R_alloc|apply Kd.R_drewN|apply Kd.R_drew));exact HO_11.out))) (below_size (by repeat (first|(with_reducible first|exact HB.out|apply below_alloc|apply pw_below_drewN|apply below_drew1)|exact HB.out))));have n4_:=Aside0.mk (below_step (by repeat (first|(with_reducible first|exact HB.out|apply below_alloc|apply pw_below_drewN|apply below_drew1)|exact HB.out)) hb);clear HO_5;clear HO_6;clear HO_11;clear HB;have HO_5:=n0_;have HO_6:=n1_;have HO_11:=n2_;have HO311:=n3_;have HB:=n4_;clear n0_ n1_ n2_ n3_ n4_;(try clear hb);(try clear hb2);(try clear hk);(try clear hi);(try clear ho0);obtain ⟨Ao36,co36,eo36⟩:=Kd.R_slice HO311.out;subst eo36)|((with_reducible refine gate_callee (f:=35) rfl ?_);refine goesL_ (some 88) rfl rfl Try.func35 (by kernel_rfl) rfl #[.slice Ao36 t308.length co36,.slice Ao24 t299.length co24] rfl (by (try simp only [List.map_toArray,List.map_cons,List.map_nil]);first|done|rfl|(simp only [List.length_drop,List.length_take];rfl)) ?_;(with_reducible refine (impl_CostBy.calls kj20 _ _ t308 _ _ t299 t312 true _ ?side1 ?side2 ?side3 ?side4 A31.out).mono ?_);(case side1=>repeat (first|exact (Kd.R_reads' HO311.out).2.2|(with_reducible refine Kd.C_alloc ?_ _)|(with_reducible refine Kd.C_drewN ?_ _)|(with_reducible refine Kd.C_drew ?_)));(case side2=>exact (Kd.R_reads' HO311.out).2.1);(case side3=>repeat (first|exact (Kd.R_reads' HO_11.out).2.2|(with_reducible refine Kd.C_alloc ?_ _)|(with_reducible refine Kd.C_drewN ?_ _)|(with_reducible refine Kd.C_drew ?_)));(case side4=>exact (Kd.R_reads' HO_11.out).2.1);rintro e w37 ⟨rfl,hb⟩;refine ⟨_,rfl,?_⟩;have n0_:=Aside0.mk (Kd.R_below (by (with_reducible repeat (first|apply Kd.R_alloc|apply Kd.R_drewN|apply Kd.R_drew));exact HO_5.out) hb);have n1_:=Aside0.mk (Kd.R_below (by (with_reducible repeat (first|apply Kd.R_alloc|apply Kd.R_drewN|apply Kd.R_drew));exact HO_6.out) hb);have n2_:=Aside0.mk (Kd.R_below (by (with_reducible repeat (first|apply Kd.R_alloc|apply Kd.R_drewN|apply Kd.R_drew));exact HO_11.out) hb);have n3_:=Aside0.mk (Kd.R_below (by (with_reducible repeat (first|apply Kd.R_alloc|apply Kd.R_drewN|apply Kd.R_drew));exact HO311.out) hb);have n4_:=Aside0.mk (below_step (by repeat (first|(with_reducible first|exact HB.out|apply below_alloc|apply pw_below_drewN|apply below_drew1)|exact HB.out)) hb);clear HO_5;clear HO_6;clear HO_11;clear HO311;clear HB;have HO_5:=n0_;have HO_6:=n1_;have HO_11:=n2_;have HO311:=n3_;have HB:=n4_;clear n0_ n1_ n2_ n3_ n4_;(try clear hb);(try clear hb2);(try clear hk);(try clear hi)))
             go_ret
             exact ⟨by first|rfl|(simp [errW_none,errW_some] <;> rfl)|(simp [*,errW_none,errW_some] <;> rfl),by repeat (first|(with_reducible first|exact HB.out|apply below_alloc|apply pw_below_drewN|apply below_drew1)|exact HB.out)⟩
            ·rw [if_neg c34] at H
             have c34b0:decide (t304 < t312) = false:=decide_eq_false c34
             clear c34
             (first|rw [c34b0]|(simp only [i64_w,i32_w];rw [c34b0])|skip)
             have H':=Aside0.mk H
             clear H
             go_wp2_with (first|((with_reducible refine gate_callee (f:=28) rfl ?_);refine goesL_ (some 82) rfl rfl Try.func28 (by kernel_rfl) rfl #[.slice Ao24 t299.length co24] rfl (by (try simp only [List.map_toArray,List.map_cons,List.map_nil]);first|done|rfl|(simp only [List.length_drop,List.length_take];rfl)) ?_;(with_reducible refine (impl_LengthsOf.calls kj20 _ _ t299 t308 true _ ?side1 ?side2 A30.out).mono ?_);(case side1=>repeat (first|exact (Kd.R_reads' HO_11.out).2.2|(with_reducible refine Kd.C_alloc ?_ _)|(with_reducible refine Kd.C_drewN ?_ _)|(with_reducible refine Kd.C_drew ?_)));(case side2=>exact (Kd.R_reads' HO_11.out).2.1);rintro e w38 ⟨v310,rfl,ho0,hb⟩;refine ⟨_,rfl,?_⟩;have n0_:=Aside0.mk (Kd.R_elder' (by (with_reducible repeat (first|apply Kd.R_alloc|apply Kd.R_drewN|apply Kd.R_drew));exact HO_5.out) (Kd.R_base ho0) hb);have n1_:=Aside0.mk (Kd.R_elder' (by (with_reducible repeat (first|apply Kd.R_alloc|apply Kd.R_drewN|apply Kd.R_drew));exact HO_6.out) (Kd.R_base ho0) hb);have n2_:=Aside0.mk (Kd.R_elder' (by (with_reducible repeat (first|apply Kd.R_alloc|apply Kd.R_drewN|apply Kd.R_drew));exact HO_11.out) (Kd.R_base ho0) hb);have n3_:=Aside0.mk (Kd.R_lower (Kd.R_new' (Kd.R_new' (Kd.R_new' ho0 (Kd.R_lt (by (with_reducible repeat (first|apply Kd.R_alloc|apply Kd.R_drewN|apply Kd.R_drew));exact HO_5.out))) (Kd.R_lt (by (with_reducible repeat (first|apply Kd.R_alloc|apply Kd.R_drewN|apply Kd.R_drew));exact HO_6.out))) (Kd.R_lt (by (with_reducible repeat (first|apply Kd.R_alloc|apply Kd.R_drewN|apply Kd.R_drew));exact HO_11.out))) (below_size (by repeat (first|(with_reducible first|exact HB.out|apply below_alloc|apply pw_below_drewN|apply below_drew1)|exact HB.out))));have n4_:=Aside0.mk (below_step (by repeat (first|(with_reducible first|exact HB.out|apply below_alloc|apply pw_below_drewN|apply below_drew1)|exact HB.out)) hb);clear HO_5;clear HO_6;clear HO_11;clear HB;have HO_5:=n0_;have HO_6:=n1_;have HO_11:=n2_;have HO311:=n3_;have HB:=n4_;clear n0_ n1_ n2_ n3_ n4_;(try clear hb);(try clear hb2);(try clear hk);(try clear hi);(try clear ho0);obtain ⟨Ao39,co39,eo39⟩:=Kd.R_slice HO311.out;subst eo39)|((with_reducible refine gate_callee (f:=35) rfl ?_);refine goesL_ (some 88) rfl rfl Try.func35 (by kernel_rfl) rfl #[.slice Ao39 t308.length co39,.slice Ao24 t299.length co24] rfl (by (try simp only [List.map_toArray,List.map_cons,List.map_nil]);first|done|rfl|(simp only [List.length_drop,List.length_take];rfl)) ?_;(with_reducible refine (impl_CostBy.calls kj20 _ _ t308 _ _ t299 t312 true _ ?side1 ?side2 ?side3 ?side4 A31.out).mono ?_);(case side1=>repeat (first|exact (Kd.R_reads' HO311.out).2.2|(with_reducible refine Kd.C_alloc ?_ _)|(with_reducible refine Kd.C_drewN ?_ _)|(with_reducible refine Kd.C_drew ?_)));(case side2=>exact (Kd.R_reads' HO311.out).2.1);(case side3=>repeat (first|exact (Kd.R_reads' HO_11.out).2.2|(with_reducible refine Kd.C_alloc ?_ _)|(with_reducible refine Kd.C_drewN ?_ _)|(with_reducible refine Kd.C_drew ?_)));(case side4=>exact (Kd.R_reads' HO_11.out).2.1);rintro e w40 ⟨rfl,hb⟩;refine ⟨_,rfl,?_⟩;have n0_:=Aside0.mk (Kd.R_below (by (with_reducible repeat (first|apply Kd.R_alloc|apply Kd.R_drewN|apply Kd.R_drew));exact HO_5.out) hb);have n1_:=Aside0.mk (Kd.R_below (by (with_reducible repeat (first|apply Kd.R_alloc|apply Kd.R_drewN|apply Kd.R_drew));exact HO_6.out) hb);have n2_:=Aside0.mk (Kd.R_below (by (with_reducible repeat (first|apply Kd.R_alloc|apply Kd.R_drewN|apply Kd.R_drew));exact HO_11.out) hb);have n3_:=Aside0.mk (Kd.R_below (by (with_reducible repeat (first|apply Kd.R_alloc|apply Kd.R_drewN|apply Kd.R_drew));exact HO311.out) hb);have n4_:=Aside0.mk (below_step (by repeat (first|(with_reducible first|exact HB.out|apply below_alloc|apply pw_below_drewN|apply below_drew1)|exact HB.out)) hb);clear HO_5;clear HO_6;clear HO_11;clear HO311;clear HB;have HO_5:=n0_;have HO_6:=n1_;have HO_11:=n2_;have HO311:=n3_;have HB:=n4_;clear n0_ n1_ n2_ n3_ n4_;(try clear hb);(try clear hb2);(try clear hk);(try clear hi)))
             go_meet
             case rel=>exact ⟨_,H',⟨by have:=HJ7.out;have:=HJ20.out;first|omega|exact Nat.le_refl _⟩,⟨by (with_reducible repeat (first|apply Kd.R_alloc|apply Kd.R_drewN|apply Kd.R_drew));exact Kd.R_mono HO_5.out (fun _ hk=>hk.1.1)⟩,⟨by (with_reducible repeat (first|apply Kd.R_alloc|apply Kd.R_drewN|apply Kd.R_drew));exact Kd.R_mono HO_6.out (fun _ hk=>hk.1.1)⟩,⟨by repeat (first|(with_reducible first|exact HB.out|apply below_alloc|apply pw_below_drewN|apply below_drew1)|exact HB.out)⟩⟩
           ·replace c33:=Bool.eq_false_iff.mpr c33
            subst c33
            have H1:(some false) = some r:=by rw [if_neg (show ¬ (false = true) by decide)] at H;exact H
            clear H
            have H:=H1
            clear H1
            obtain rfl:=Option.some.inj H
            go_wp2_with (first|((with_reducible refine gate_callee (f:=28) rfl ?_);refine goesL_ (some 82) rfl rfl Try.func28 (by kernel_rfl) rfl #[.slice Ao24 t299.length co24] rfl (by (try simp only [List.map_toArray,List.map_cons,List.map_nil]);first|done|rfl|(simp only [List.length_drop,List.length_take];rfl)) ?_;(with_reducible refine (impl_LengthsOf.calls kj20 _ _ t299 t308 true _ ?side1 ?side2 A30.out).mono ?_);(case side1=>repeat (first|exact (Kd.R_reads' HO_11.out).2.2|(with_reducible refine Kd.C_alloc ?_ _)|(with_reducible refine Kd.C_drewN ?_ _)|(with_reducible refine Kd.C_drew ?_)));(case side2=>exact (Kd.R_reads' HO_11.out).2.1);rintro e w41 ⟨v310,rfl,ho0,hb⟩;refine ⟨_,rfl,?_⟩;have n0_:=Aside0.mk (Kd.R_elder' (by (with_reducible repeat (first|apply Kd.R_alloc|apply Kd.R_drewN|apply Kd.R_drew));exact HO_5.out) (Kd.R_base ho0) hb);have n1_:=Aside0.mk (Kd.R_elder' (by (with_reducible repeat (first|apply Kd.R_alloc|apply Kd.R_drewN|apply Kd.R_drew));exact HO_6.out) (Kd.R_base ho0) hb);have n2_:=Aside0.mk (Kd.R_elder' (by (with_reducible repeat (first|apply Kd.R_alloc|apply Kd.R_drewN|apply Kd.R_drew));exact HO_11.out) (Kd.R_base ho0) hb);have n3_:=Aside0.mk (Kd.R_lower (Kd.R_new' (Kd.R_new' (Kd.R_new' ho0 (Kd.R_lt (by (with_reducible repeat (first|apply Kd.R_alloc|apply Kd.R_drewN|apply Kd.R_drew));exact HO_5.out))) (Kd.R_lt (by (with_reducible repeat (first|apply Kd.R_alloc|apply Kd.R_drewN|apply Kd.R_drew));exact HO_6.out))) (Kd.R_lt (by (with_reducible repeat (first|apply Kd.R_alloc|apply Kd.R_drewN|apply Kd.R_drew));exact HO_11.out))) (below_size (by repeat (first|(with_reducible first|exact HB.out|apply below_alloc|apply pw_below_drewN|apply below_drew1)|exact HB.out))));have n4_:=Aside0.mk (below_step (by repeat (first|(with_reducible first|exact HB.out|apply below_alloc|apply pw_below_drewN|apply below_drew1)|exact HB.out)) hb);clear HO_5;clear HO_6;clear HO_11;clear HB;have HO_5:=n0_;have HO_6:=n1_;have HO_11:=n2_;have HO311:=n3_;have HB:=n4_;clear n0_ n1_ n2_ n3_ n4_;(try clear hb);(try clear hb2);(try clear hk);(try clear hi);(try clear ho0);obtain ⟨Ao42,co42,eo42⟩:=Kd.R_slice HO311.out;subst eo42)|((with_reducible refine gate_callee (f:=35) rfl ?_);refine goesL_ (some 88) rfl rfl Try.func35 (by kernel_rfl) rfl #[.slice Ao42 t308.length co42,.slice Ao24 t299.length co24] rfl (by (try simp only [List.map_toArray,List.map_cons,List.map_nil]);first|done|rfl|(simp only [List.length_drop,List.length_take];rfl)) ?_;(with_reducible refine (impl_CostBy.calls kj20 _ _ t308 _ _ t299 t312 false _ ?side1 ?side2 ?side3 ?side4 A31.out).mono ?_);(case side1=>repeat (first|exact (Kd.R_reads' HO311.out).2.2|(with_reducible refine Kd.C_alloc ?_ _)|(with_reducible refine Kd.C_drewN ?_ _)|(with_reducible refine Kd.C_drew ?_)));(case side2=>exact (Kd.R_reads' HO311.out).2.1);(case side3=>repeat (first|exact (Kd.R_reads' HO_11.out).2.2|(with_reducible refine Kd.C_alloc ?_ _)|(with_reducible refine Kd.C_drewN ?_ _)|(with_reducible refine Kd.C_drew ?_)));(case side4=>exact (Kd.R_reads' HO_11.out).2.1);rintro e w43 ⟨rfl,hb⟩;refine ⟨_,rfl,?_⟩;have n0_:=Aside0.mk (Kd.R_below (by (with_reducible repeat (first|apply Kd.R_alloc|apply Kd.R_drewN|apply Kd.R_drew));exact HO_5.out) hb);have n1_:=Aside0.mk (Kd.R_below (by (with_reducible repeat (first|apply Kd.R_alloc|apply Kd.R_drewN|apply Kd.R_drew));exact HO_6.out) hb);have n2_:=Aside0.mk (Kd.R_below (by (with_reducible repeat (first|apply Kd.R_alloc|apply Kd.R_drewN|apply Kd.R_drew));exact HO_11.out) hb);have n3_:=Aside0.mk (Kd.R_below (by (with_reducible repeat (first|apply Kd.R_alloc|apply Kd.R_drewN|apply Kd.R_drew));exact HO311.out) hb);have n4_:=Aside0.mk (below_step (by repeat (first|(with_reducible first|exact HB.out|apply below_alloc|apply pw_below_drewN|apply below_drew1)|exact HB.out)) hb);clear HO_5;clear HO_6;clear HO_11;clear HO311;clear HB;have HO_5:=n0_;have HO_6:=n1_;have HO_11:=n2_;have HO311:=n3_;have HB:=n4_;clear n0_ n1_ n2_ n3_ n4_;(try clear hb);(try clear hb2);(try clear hk);(try clear hi)))
            go_ret
            exact ⟨by first|rfl|(simp [errW_none,errW_some] <;> rfl)|(simp [*,errW_none,errW_some] <;> rfl),by repeat (first|(with_reducible first|exact HB.out|apply below_alloc|apply pw_below_drewN|apply below_drew1)|exact HB.out)⟩
          ·replace c32:=Bool.eq_false_iff.mpr c32
           subst c32
           have H1:(some false) = some r:=by rw [if_neg (show ¬ (false = true) by decide)] at H;exact H
           clear H
           have H:=H1
           clear H1
           obtain rfl:=Option.some.inj H
           go_wp2_with (first|((with_reducible refine gate_callee (f:=28) rfl ?_);refine goesL_ (some 82) rfl rfl Try.func28 (by kernel_rfl) rfl #[.slice Ao24 t299.length co24] rfl (by (try simp only [List.map_toArray,List.map_cons,List.map_nil]);first|done|rfl|(simp only [List.length_drop,List.length_take];rfl)) ?_;(with_reducible refine (impl_LengthsOf.calls kj20 _ _ t299 t308 false _ ?side1 ?side2 A30.out).mono ?_);(case side1=>repeat (first|exact (Kd.R_reads' HO_11.out).2.2|(with_reducible refine Kd.C_alloc ?_ _)|(with_reducible refine Kd.C_drewN ?_ _)|(with_reducible refine Kd.C_drew ?_)));(case side2=>exact (Kd.R_reads' HO_11.out).2.1);rintro e w44 ⟨v310,rfl,ho0,hb⟩;refine ⟨_,rfl,?_⟩;have n0_:=Aside0.mk (Kd.R_elder' (by (with_reducible repeat (first|apply Kd.R_alloc|apply Kd.R_drewN|apply Kd.R_drew));exact HO_5.out) (Kd.R_base ho0) hb);have n1_:=Aside0.mk (Kd.R_elder' (by (with_reducible repeat (first|apply Kd.R_alloc|apply Kd.R_drewN|apply Kd.R_drew));exact HO_6.out) (Kd.R_base ho0) hb);have n2_:=Aside0.mk (Kd.R_elder' (by (with_reducible repeat (first|apply Kd.R_alloc|apply Kd.R_drewN|apply Kd.R_drew));exact HO_11.out) (Kd.R_base ho0) hb);have n3_:=Aside0.mk (Kd.R_lower (Kd.R_new' (Kd.R_new' (Kd.R_new' ho0 (Kd.R_lt (by (with_reducible repeat (first|apply Kd.R_alloc|apply Kd.R_drewN|apply Kd.R_drew));exact HO_5.out))) (Kd.R_lt (by (with_reducible repeat (first|apply Kd.R_alloc|apply Kd.R_drewN|apply Kd.R_drew));exact HO_6.out))) (Kd.R_lt (by (with_reducible repeat (first|apply Kd.R_alloc|apply Kd.R_drewN|apply Kd.R_drew));exact HO_11.out))) (below_size (by repeat (first|(with_reducible first|exact HB.out|apply below_alloc|apply pw_below_drewN|apply below_drew1)|exact HB.out))));have n4_:=Aside0.mk (below_step (by repeat (first|(with_reducible first|exact HB.out|apply below_alloc|apply pw_below_drewN|apply below_drew1)|exact HB.out)) hb);clear HO_5;clear HO_6;clear HO_11;clear HB;have HO_5:=n0_;have HO_6:=n1_;have HO_11:=n2_;have HO311:=n3_;have HB:=n4_;clear n0_ n1_ n2_ n3_ n4_;(try clear hb);(try clear hb2);(try clear hk);(try clear hi);(try clear ho0);obtain ⟨Ao45,co45,eo45⟩:=Kd.R_slice HO311.out;subst eo45)|((with_reducible refine gate_callee (f:=35) rfl ?_);refine goesL_ (some 88) rfl rfl Try.func35 (by kernel_rfl) rfl #[.slice Ao45 t308.length co45,.slice Ao24 t299.length co24] rfl (by (try simp only [List.map_toArray,List.map_cons,List.map_nil]);first|done|rfl|(simp only [List.length_drop,List.length_take];rfl)) ?_;(with_reducible refine (impl_CostBy.calls kj20 _ _ t308 _ _ t299 t312 t313 _ ?side1 ?side2 ?side3 ?side4 A31.out).mono ?_);(case side1=>repeat (first|exact (Kd.R_reads' HO311.out).2.2|(with_reducible refine Kd.C_alloc ?_ _)|(with_reducible refine Kd.C_drewN ?_ _)|(with_reducible refine Kd.C_drew ?_)));(case side2=>exact (Kd.R_reads' HO311.out).2.1);(case side3=>repeat (first|exact (Kd.R_reads' HO_11.out).2.2|(with_reducible refine Kd.C_alloc ?_ _)|(with_reducible refine Kd.C_drewN ?_ _)|(with_reducible refine Kd.C_drew ?_)));(case side4=>exact (Kd.R_reads' HO_11.out).2.1);rintro e w46 ⟨rfl,hb⟩;refine ⟨_,rfl,?_⟩;have n0_:=Aside0.mk (Kd.R_below (by (with_reducible repeat (first|apply Kd.R_alloc|apply Kd.R_drewN|apply Kd.R_drew));exact HO_5.out) hb);have n1_:=Aside0.mk (Kd.R_below (by (with_reducible repeat (first|apply Kd.R_alloc|apply Kd.R_drewN|apply Kd.R_drew));exact HO_6.out) hb);have n2_:=Aside0.mk (Kd.R_below (by (with_reducible repeat (first|apply Kd.R_alloc|apply Kd.R_drewN|apply Kd.R_drew));exact HO_11.out) hb);have n3_:=Aside0.mk (Kd.R_below (by (with_reducible repeat (first|apply Kd.R_alloc|apply Kd.R_drewN|apply Kd.R_drew));exact HO311.out) hb);have n4_:=Aside0.mk (below_step (by repeat (first|(with_reducible first|exact HB.out|apply below_alloc|apply pw_below_drewN|apply below_drew1)|exact HB.out)) hb);clear HO_5;clear HO_6;clear HO_11;clear HO311;clear HB;have HO_5:=n0_;have HO_6:=n1_;have HO_11:=n2_;have HO311:=n3_;have HB:=n4_;clear n0_ n1_ n2_ n3_ n4_;(try clear hb);(try clear hb2);(try clear hk);(try clear hi)))
           go_ret
           exact ⟨by first|rfl|(simp [errW_none,errW_some] <;> rfl)|(simp [*,errW_none,errW_some] <;> rfl),by repeat (first|(with_reducible first|exact HB.out|apply below_alloc|apply pw_below_drewN|apply below_drew1)|exact HB.out)⟩
         ·replace c29:=Bool.eq_false_iff.mpr c29
          subst c29
          have H1:(laws_FnHuffman.j2 kj20 l1 t286 t289 t290) = some r:=by rw [if_neg (show ¬ (false = true) by decide)] at H;exact H
          clear H
          have H:=H1
          clear H1
          have H':=Aside0.mk H
          clear H
          go_wp2
          go_meet
          case rel=>exact ⟨_,H',⟨by have:=HJ7.out;have:=HJ20.out;first|omega|exact Nat.le_refl _⟩,⟨by (with_reducible repeat (first|apply Kd.R_alloc|apply Kd.R_drewN|apply Kd.R_drew));exact Kd.R_mono HO_5.out (fun _ hk=>hk.1)⟩,⟨by (with_reducible repeat (first|apply Kd.R_alloc|apply Kd.R_drewN|apply Kd.R_drew));exact Kd.R_mono HO_6.out (fun _ hk=>hk.1)⟩,⟨by repeat (first|(with_reducible first|exact HB.out|apply below_alloc|apply pw_below_drewN|apply below_drew1)|exact HB.out)⟩⟩
        case rest =>
         clear HC28
         try clear c1
         try clear c2
         try clear p2
         try clear c3
         try clear c4
         try clear c5
         try clear c6
         try clear c13
         try clear c13b0
         try clear c13b1
         try clear c13b2
         try clear c17
         try clear c26
         try clear c26b0
         try clear c26b1
         try clear c26b2
         try clear c27
         try clear c28
         try clear c29
         try clear c32
         try clear c33
         try clear c34
         try clear c34b0
         try clear c35
         try clear c36
         try clear p2
         obtain ⟨kq,HA,HJ27,HO_5,HO_6,HB⟩:=hcut
         cases kq with
         | zero=>exact absurd HA.out (by simp [laws_FnHuffman.j2])
         | succ kj27 =>
          have H:=HA.out
          clear HA
          simp only [laws_FnHuffman.j2] at H
          have HC47:=Aside0.mk H
          clear H
          go_upto_if 102 with (fail)
          go_cut [] (fun wc=>∃ (kq:Nat),Aside0 (laws_FnHuffman.j4 kq l1 = some r) ∧ Aside0 (kq ≤ kj27) ∧ Aside0 (Below w.heap.size w wc))
          case first =>
           have H:=HC47.out
           clear HC47
           by_cases c48:t290 = true
           ·subst c48
            have H1:((impl_KraftOf.f kj27 t289).bind fun bt314=>(laws_FnHuffman.l0 kj27 l1 t289 bt314.1 bt314.2 0 t286 (t286.length:Int) 0)) = some r:=by rw [if_pos rfl] at H;exact H
            clear H
            have H:=H1
            clear H1
            replace H:=Option.bind_eq_some_iff.mp H
            obtain ⟨⟨t314,t315⟩,A490,H⟩:=H
            replace H:(laws_FnHuffman.l0 kj27 l1 t289 t314 t315 0 t286 (t286.length:Int) 0) = some r:=H
            have A49:=Aside0.mk A490
            clear A490
            have H':=Aside0.mk H
            clear H
            obtain ⟨Ao50,co50,eo50⟩:=Kd.R_slice HO_6.out
            subst eo50
            go_wp2_with (first|((with_reducible refine gate_callee (f:=37) rfl ?_);refine goesL_ (some 105) rfl rfl Try.func37 (by kernel_rfl) rfl #[.slice Ao50 t289.length co50] rfl (by (try simp only [List.map_toArray,List.map_cons,List.map_nil]);first|done|rfl|(simp only [List.length_drop,List.length_take];rfl)) ?_;(with_reducible refine (impl_KraftOf.calls kj27 _ _ t289 t314 t315 _ ?side1 ?side2 A49.out).mono ?_);(case side1=>repeat (first|exact (Kd.R_reads' HO_6.out).2.2|(with_reducible refine Kd.C_alloc ?_ _)|(with_reducible refine Kd.C_drewN ?_ _)|(with_reducible refine Kd.C_drew ?_)));(case side2=>exact (Kd.R_reads' HO_6.out).2.1);rintro e w51 ⟨rfl,hb⟩;refine ⟨_,rfl,?_⟩;have n0_:=Aside0.mk (Kd.R_below (by (with_reducible repeat (first|apply Kd.R_alloc|apply Kd.R_drewN|apply Kd.R_drew));exact HO_5.out) hb);have n1_:=Aside0.mk (Kd.R_below (by (with_reducible repeat (first|apply Kd.R_alloc|apply Kd.R_drewN|apply Kd.R_drew));exact HO_6.out) hb);have n2_:=Aside0.mk (below_step (by repeat (first|(with_reducible first|exact HB.out|apply below_alloc|apply pw_below_drewN|apply below_drew1)|exact HB.out)) hb);clear HO_5;clear HO_6;clear HB;have HO_5:=n0_;have HO_6:=n1_;have HB:=n2_;clear n0_ n1_ n2_;(try clear hb);(try clear hb2);(try clear hk);(try clear hi)))
            go_loopg [22,110] kj27 (fun kq v22 v110 w'=>∃ (x22_4:Int) (x110_4:Int),v22 = .int .i64 x22_4 ∧ v110 = .int .i64 x110_4 ∧ Aside0 (laws_FnHuffman.l0 kq l1 t289 t314 t315 x22_4 t286 (t286.length:Int) x110_4 = some r) ∧ Aside0 (kq ≤ kj27) ∧ Aside0 (Kd.R (Kd.int .i64) 3 w' w.heap.size (fun k_=>some k_ ≠ ((.slice Ao10 t286.length co10):Value).ownBlock) (.slice Ao50 t289.length co50) t289) ∧ Aside0 (Kd.R (Kd.int .i64) 3 w' w.heap.size (fun k_=>some k_ ≠ ((.slice Ao50 t289.length co50):Value).ownBlock) (.slice Ao10 t286.length co10) t286) ∧ Aside0 (Below w.heap.size w w'))
            case atStart=>exact ⟨(0),(0),(by first|rfl|(simp;done)|(simp [*];done)),(by first|rfl|(simp;done)|(simp [*];done)),H',⟨Nat.le_refl _⟩,⟨by (with_reducible repeat (first|apply Kd.R_alloc|apply Kd.R_drewN|apply Kd.R_drew));exact HO_6.out⟩,⟨by (with_reducible repeat (first|apply Kd.R_alloc|apply Kd.R_drewN|apply Kd.R_drew));exact HO_5.out⟩,⟨by repeat (first|(with_reducible first|exact HB.out|apply below_alloc|apply pw_below_drewN|apply below_drew1)|exact HB.out)⟩⟩
            case round =>
             clear H'
             try clear c1
             try clear c2
             try clear p2
             try clear c3
             try clear c4
             try clear c5
             try clear c6
             try clear c13
             try clear c13b0
             try clear c13b1
             try clear c13b2
             try clear c17
             try clear c26
             try clear c26b0
             try clear c26b1
             try clear c26b2
             try clear c27
             try clear c28
             try clear c29
             try clear c32
             try clear c33
             try clear c34
             try clear c34b0
             try clear c35
             try clear c36
             try clear c37
             try clear c48
             try clear p2
             obtain ⟨x22_4,x110_4,rfl,rfl,HA,HK4,HO_6,HO_108,HB⟩:=hrel
             cases gk with
             | zero=>exact absurd HA.out (by simp [laws_FnHuffman.l0])
             | succ k4 =>
              have H:=HA.out
              clear HA
              simp only [laws_FnHuffman.l0] at H
              by_cases c52:x110_4 < (t286.length:Int)
              ·rw [if_pos c52] at H
               have c52b0:decide (x110_4 < (t286.length:Int)) = true:=decide_eq_true c52
               clear c52
               (first|rw [c52b0]|(simp only [i64_w,i32_w];rw [c52b0])|skip)
               by_cases c53:0 ≤ x110_4
               ·rw [if_pos c53] at H
                have c53b0:decide (0 ≤ x110_4) = true:=decide_eq_true c53
                clear c53
                by_cases c54:x110_4 < (t286.length:Int)
                ·rw [if_pos c54] at H
                 have c54b0:decide (x110_4 < (t286.length:Int)) = true:=decide_eq_true c54
                 clear c54
                 by_cases c55:(rd t286 x110_4) > 0
                 ·rw [if_pos c55] at H
                  have c55b0:decide (0 < (rd t286 x110_4)) = true:=decide_eq_true c55
                  clear c55
                  have H':=Aside0.mk H
                  clear H
                  have p316:0 ≤ (x110_4:Int):=of_decide_eq_true (by first|(with_reducible assumption)|assumption)
                  have q316:x110_4 < (t286.length:Int):=of_decide_eq_true (by first|(with_reducible assumption)|assumption)
                  obtain ⟨ad316,e316,hx316_0⟩:=Kd.at_int (Kd.R_reads' HO_108.out).2.2 x110_4 p316 q316
                  cases e316
                  replace p316:=eq_true p316
                  replace q316:=eq_true q316
                  go_wp2
                  go_roundg k4
                  case measure=>have:=HJ7.out;have:=HJ20.out;have:=HJ27.out;have:=HK4.out;omega
                  case rel=>exact ⟨(wrap64 (x22_4 + 1)),(wrap64 (x110_4 + 1)),(by first|rfl|(simp;done)|(simp [*];done)),(by first|rfl|(simp;done)|(simp [*];done)),H',⟨by have:=HJ7.out;have:=HJ20.out;have:=HJ27.out;have:=HK4.out;omega⟩,⟨by (with_reducible repeat (first|apply Kd.R_alloc|apply Kd.R_drewN|apply Kd.R_drew));exact HO_6.out⟩,⟨by (with_reducible repeat (first|apply Kd.R_alloc|apply Kd.R_drewN|apply Kd.R_drew));exact HO_108.out⟩,⟨by repeat (first|(with_reducible first|exact HB.out|apply below_alloc|apply pw_below_drewN|apply below_drew1)|exact HB.out)⟩⟩
                 ·rw [if_neg c55] at H
                  have c55b0:decide (0 < (rd t286 x110_4)) = false:=decide_eq_false c55
                  clear c55
                  have H':=Aside0.mk H
                  clear H
                  have p316:0 ≤ (x110_4:Int):=of_decide_eq_true (by first|(with_reducible assumption)|assumption)
                  have q316:x110_4 < (t286.length:Int):=of_decide_eq_true (by first|(with_reducible assumption)|assumption)
                  obtain ⟨ad316,e316,hx316_0⟩:=Kd.at_int (Kd.R_reads' HO_108.out).2.2 x110_4 p316 q316
                  cases e316
                  replace p316:=eq_true p316
                  replace q316:=eq_true q316
                  go_wp2
                  go_roundg k4
                  case measure=>have:=HJ7.out;have:=HJ20.out;have:=HJ27.out;have:=HK4.out;omega
                  case rel=>exact ⟨(x22_4),(wrap64 (x110_4 + 1)),(by first|rfl|(simp;done)|(simp [*];done)),(by first|rfl|(simp;done)|(simp [*];done)),H',⟨by have:=HJ7.out;have:=HJ20.out;have:=HJ27.out;have:=HK4.out;omega⟩,⟨by (with_reducible repeat (first|apply Kd.R_alloc|apply Kd.R_drewN|apply Kd.R_drew));exact HO_6.out⟩,⟨by (with_reducible repeat (first|apply Kd.R_alloc|apply Kd.R_drewN|apply Kd.R_drew));exact HO_108.out⟩,⟨by repeat (first|(with_reducible first|exact HB.out|apply below_alloc|apply pw_below_drewN|apply below_drew1)|exact HB.out)⟩⟩
                ·rw [if_neg c54] at H
                 exact absurd H (by simp)
               ·rw [if_neg c53] at H
                exact absurd H (by simp)
              ·rw [if_neg c52] at H
               have c52b0:decide (x110_4 < (t286.length:Int)) = false:=decide_eq_false c52
               clear c52
               (first|rw [c52b0]|(simp only [i64_w,i32_w];rw [c52b0])|skip)
               replace H:=Option.bind_eq_some_iff.mp H
               obtain ⟨t317,A560,H⟩:=H
               replace H:(if t317 = true then (if t315 = true then (if x22_4 > 1 then (if t314 = 4096 then (if x22_4 = 1 then (if t314 = 2048 then (if x22_4 = 0 then (if t314 = 0 then (laws_FnHuffman.j4 k4 l1) else (some false)) else (laws_FnHuffman.j4 k4 l1)) else (some false)) else (if x22_4 = 0 then (if t314 = 0 then (laws_FnHuffman.j4 k4 l1) else (some false)) else (laws_FnHuffman.j4 k4 l1))) else (some false)) else (if x22_4 = 1 then (if t314 = 2048 then (if x22_4 = 0 then (if t314 = 0 then (laws_FnHuffman.j4 k4 l1) else (some false)) else (laws_FnHuffman.j4 k4 l1)) else (some false)) else (if x22_4 = 0 then (if t314 = 0 then (laws_FnHuffman.j4 k4 l1) else (some false)) else (laws_FnHuffman.j4 k4 l1)))) else (some false)) else (some false)) = some r:=H
               have A56:=Aside0.mk A560
               clear A560
               by_cases c57:t317 = true
               ·subst c57
                have H1:(if t315 = true then (if x22_4 > 1 then (if t314 = 4096 then (if x22_4 = 1 then (if t314 = 2048 then (if x22_4 = 0 then (if t314 = 0 then (laws_FnHuffman.j4 k4 l1) else (some false)) else (laws_FnHuffman.j4 k4 l1)) else (some false)) else (if x22_4 = 0 then (if t314 = 0 then (laws_FnHuffman.j4 k4 l1) else (some false)) else (laws_FnHuffman.j4 k4 l1))) else (some false)) else (if x22_4 = 1 then (if t314 = 2048 then (if x22_4 = 0 then (if t314 = 0 then (laws_FnHuffman.j4 k4 l1) else (some false)) else (laws_FnHuffman.j4 k4 l1)) else (some false)) else (if x22_4 = 0 then (if t314 = 0 then (laws_FnHuffman.j4 k4 l1) else (some false)) else (laws_FnHuffman.j4 k4 l1)))) else (some false)) = some r:=by rw [if_pos rfl] at H;exact H
                clear H
                have H:=H1
                clear H1
                by_cases c58:t315 = true
                ·subst c58
                 have H1:(if x22_4 > 1 then (if t314 = 4096 then (if x22_4 = 1 then (if t314 = 2048 then (if x22_4 = 0 then (if t314 = 0 then (laws_FnHuffman.j4 k4 l1) else (some false)) else (laws_FnHuffman.j4 k4 l1)) else (some false)) else (if x22_4 = 0 then (if t314 = 0 then (laws_FnHuffman.j4 k4 l1) else (some false)) else (laws_FnHuffman.j4 k4 l1))) else (some false)) else (if x22_4 = 1 then (if t314 = 2048 then (if x22_4 = 0 then (if t314 = 0 then (laws_FnHuffman.j4 k4 l1) else (some false)) else (laws_FnHuffman.j4 k4 l1)) else (some false)) else (if x22_4 = 0 then (if t314 = 0 then (laws_FnHuffman.j4 k4 l1) else (some false)) else (laws_FnHuffman.j4 k4 l1)))) = some r:=by rw [if_pos rfl] at H;exact H
                 clear H
                 have H:=H1
                 clear H1
                 by_cases c59:x22_4 > 1
                 ·rw [if_pos c59] at H
                  have c59b0:decide (1 < x22_4) = true:=decide_eq_true c59
                  clear c59
                  by_cases c60:t314 = 4096
                  ·rw [if_pos c60] at H
                   have c60b0:(t314 == 4096) = true:=beq_iff_eq.mpr c60
                   have c60b1:(t314 != 4096) = false:=bne_eq_false_iff_eq.mpr c60
                   clear c60
                   by_cases c61:x22_4 = 1
                   ·rw [if_pos c61] at H
                    have c61b0:(x22_4 == 1) = true:=beq_iff_eq.mpr c61
                    have c61b1:(x22_4 != 1) = false:=bne_eq_false_iff_eq.mpr c61
                    clear c61
                    by_cases c62:t314 = 2048
                    ·rw [if_pos c62] at H
                     have c62b0:(t314 == 2048) = true:=beq_iff_eq.mpr c62
                     have c62b1:(t314 != 2048) = false:=bne_eq_false_iff_eq.mpr c62
                     clear c62
                     by_cases c63:x22_4 = 0
                     ·rw [if_pos c63] at H
                      have c63b0:(x22_4 == 0) = true:=beq_iff_eq.mpr c63
                      have c63b1:(x22_4 != 0) = false:=bne_eq_false_iff_eq.mpr c63
                      clear c63
                      by_cases c64:t314 = 0
                      ·rw [if_pos c64] at H
                       have c64b0:(t314 == 0) = true:=beq_iff_eq.mpr c64
                       have c64b1:(t314 != 0) = false:=bne_eq_false_iff_eq.mpr c64
                       clear c64
                       have H':=Aside0.mk H
                       clear H
                       go_wp2_with (first|((with_reducible refine gate_callee (f:=38) rfl ?_);refine goesL_ (some 120) rfl rfl Try.func38 (by kernel_rfl) rfl #[.slice Ao50 t289.length co50] rfl (by (try simp only [List.map_toArray,List.map_cons,List.map_nil]);first|done|rfl|(simp only [List.length_drop,List.length_take];rfl)) ?_;(with_reducible refine (impl_GoodLengths.calls k4 _ _ t289 true _ ?side1 ?side2 A56.out).mono ?_);(case side1=>repeat (first|exact (Kd.R_reads' HO_6.out).2.2|(with_reducible refine Kd.C_alloc ?_ _)|(with_reducible refine Kd.C_drewN ?_ _)|(with_reducible refine Kd.C_drew ?_)));(case side2=>exact (Kd.R_reads' HO_6.out).2.1);rintro e w65 ⟨rfl,hb⟩;refine ⟨_,rfl,?_⟩;have n0_:=Aside0.mk (Kd.R_below (by (with_reducible repeat (first|apply Kd.R_alloc|apply Kd.R_drewN|apply Kd.R_drew));exact HO_6.out) hb);have n1_:=Aside0.mk (Kd.R_below (by (with_reducible repeat (first|apply Kd.R_alloc|apply Kd.R_drewN|apply Kd.R_drew));exact HO_108.out) hb);have n2_:=Aside0.mk (below_step (by repeat (first|(with_reducible first|exact HB.out|apply below_alloc|apply pw_below_drewN|apply below_drew1)|exact HB.out)) hb);clear HO_6;clear HO_108;clear HB;have HO_6:=n0_;have HO_108:=n1_;have HB:=n2_;clear n0_ n1_ n2_;(try clear hb);(try clear hb2);(try clear hk);(try clear hi)))
                       go_meet
                       case rel=>exact ⟨_,H',⟨by have:=HJ7.out;have:=HJ20.out;have:=HJ27.out;have:=HK4.out;first|omega|exact Nat.le_refl _⟩,⟨by repeat (first|(with_reducible first|exact HB.out|apply below_alloc|apply pw_below_drewN|apply below_drew1)|exact HB.out)⟩⟩
                      ·rw [if_neg c64] at H
                       have c64b0:(t314 == 0) = false:=beq_eq_false_iff_ne.mpr c64
                       have c64b1:(t314 != 0) = true:=bne_iff_ne.mpr c64
                       obtain rfl:=Option.some.inj H
                       go_wp2_with (first|((with_reducible refine gate_callee (f:=38) rfl ?_);refine goesL_ (some 120) rfl rfl Try.func38 (by kernel_rfl) rfl #[.slice Ao50 t289.length co50] rfl (by (try simp only [List.map_toArray,List.map_cons,List.map_nil]);first|done|rfl|(simp only [List.length_drop,List.length_take];rfl)) ?_;(with_reducible refine (impl_GoodLengths.calls k4 _ _ t289 true _ ?side1 ?side2 A56.out).mono ?_);(case side1=>repeat (first|exact (Kd.R_reads' HO_6.out).2.2|(with_reducible refine Kd.C_alloc ?_ _)|(with_reducible refine Kd.C_drewN ?_ _)|(with_reducible refine Kd.C_drew ?_)));(case side2=>exact (Kd.R_reads' HO_6.out).2.1);rintro e w66 ⟨rfl,hb⟩;refine ⟨_,rfl,?_⟩;have n0_:=Aside0.mk (Kd.R_below (by (with_reducible repeat (first|apply Kd.R_alloc|apply Kd.R_drewN|apply Kd.R_drew));exact HO_6.out) hb);have n1_:=Aside0.mk (Kd.R_below (by (with_reducible repeat (first|apply Kd.R_alloc|apply Kd.R_drewN|apply Kd.R_drew));exact HO_108.out) hb);have n2_:=Aside0.mk (below_step (by repeat (first|(with_reducible first|exact HB.out|apply below_alloc|apply pw_below_drewN|apply below_drew1)|exact HB.out)) hb);clear HO_6;clear HO_108;clear HB;have HO_6:=n0_;have HO_108:=n1_;have HB:=n2_;clear n0_ n1_ n2_;(try clear hb);(try clear hb2);(try clear hk);(try clear hi)))
                       go_ret
                       exact ⟨by first|rfl|(simp [errW_none,errW_some] <;> rfl)|(simp [*,errW_none,errW_some] <;> rfl),by repeat (first|(with_reducible first|exact HB.out|apply below_alloc|apply pw_below_drewN|apply below_drew1)|exact HB.out)⟩
                     ·rw [if_neg c63] at H
                      have c63b0:(x22_4 == 0) = false:=beq_eq_false_iff_ne.mpr c63
                      have c63b1:(x22_4 != 0) = true:=bne_iff_ne.mpr c63
                      have H':=Aside0.mk H
                      clear H
                      go_wp2_with (first|((with_reducible refine gate_callee (f:=38) rfl ?_);refine goesL_ (some 120) rfl rfl Try.func38 (by kernel_rfl) rfl #[.slice Ao50 t289.length co50] rfl (by (try simp only [List.map_toArray,List.map_cons,List.map_nil]);first|done|rfl|(simp only [List.length_drop,List.length_take];rfl)) ?_;(with_reducible refine (impl_GoodLengths.calls k4 _ _ t289 true _ ?side1 ?side2 A56.out).mono ?_);(case side1=>repeat (first|exact (Kd.R_reads' HO_6.out).2.2|(with_reducible refine Kd.C_alloc ?_ _)|(with_reducible refine Kd.C_drewN ?_ _)|(with_reducible refine Kd.C_drew ?_)));(case side2=>exact (Kd.R_reads' HO_6.out).2.1);rintro e w67 ⟨rfl,hb⟩;refine ⟨_,rfl,?_⟩;have n0_:=Aside0.mk (Kd.R_below (by (with_reducible repeat (first|apply Kd.R_alloc|apply Kd.R_drewN|apply Kd.R_drew));exact HO_6.out) hb);have n1_:=Aside0.mk (Kd.R_below (by (with_reducible repeat (first|apply Kd.R_alloc|apply Kd.R_drewN|apply Kd.R_drew));exact HO_108.out) hb);have n2_:=Aside0.mk (below_step (by repeat (first|(with_reducible first|exact HB.out|apply below_alloc|apply pw_below_drewN|apply below_drew1)|exact HB.out)) hb);clear HO_6;clear HO_108;clear HB;have HO_6:=n0_;have HO_108:=n1_;have HB:=n2_;clear n0_ n1_ n2_;(try clear hb);(try clear hb2);(try clear hk);(try clear hi)))
                      go_meet
                      case rel=>exact ⟨_,H',⟨by have:=HJ7.out;have:=HJ20.out;have:=HJ27.out;have:=HK4.out;first|omega|exact Nat.le_refl _⟩,⟨by repeat (first|(with_reducible first|exact HB.out|apply below_alloc|apply pw_below_drewN|apply below_drew1)|exact HB.out)⟩⟩
                    ·rw [if_neg c62] at H
                     have c62b0:(t314 == 2048) = false:=beq_eq_false_iff_ne.mpr c62
                     have c62b1:(t314 != 2048) = true:=bne_iff_ne.mpr c62
                     obtain rfl:=Option.some.inj H
                     go_wp2_with (first|((with_reducible refine gate_callee (f:=38) rfl ?_);refine goesL_ (some 120) rfl rfl Try.func38 (by kernel_rfl) rfl #[.slice Ao50 t289.length co50] rfl (by (try simp only [List.map_toArray,List.map_cons,List.map_nil]);first|done|rfl|(simp only [List.length_drop,List.length_take];rfl)) ?_;(with_reducible refine (impl_GoodLengths.calls k4 _ _ t289 true _ ?side1 ?side2 A56.out).mono ?_);(case side1=>repeat (first|exact (Kd.R_reads' HO_6.out).2.2|(with_reducible refine Kd.C_alloc ?_ _)|(with_reducible refine Kd.C_drewN ?_ _)|(with_reducible refine Kd.C_drew ?_)));(case side2=>exact (Kd.R_reads' HO_6.out).2.1);rintro e w68 ⟨rfl,hb⟩;refine ⟨_,rfl,?_⟩;have n0_:=Aside0.mk (Kd.R_below (by (with_reducible repeat (first|apply Kd.R_alloc|apply Kd.R_drewN|apply Kd.R_drew));exact HO_6.out) hb);have n1_:=Aside0.mk (Kd.R_below (by (with_reducible repeat (first|apply Kd.R_alloc|apply Kd.R_drewN|apply Kd.R_drew));exact HO_108.out) hb);have n2_:=Aside0.mk (below_step (by repeat (first|(with_reducible first|exact HB.out|apply below_alloc|apply pw_below_drewN|apply below_drew1)|exact HB.out)) hb);clear HO_6;clear HO_108;clear HB;have HO_6:=n0_;have HO_108:=n1_;have HB:=n2_;clear n0_ n1_ n2_;(try clear hb);(try clear hb2);(try clear hk);(try clear hi)))
                     go_ret
                     exact ⟨by first|rfl|(simp [errW_none,errW_some] <;> rfl)|(simp [*,errW_none,errW_some] <;> rfl),by repeat (first|(with_reducible first|exact HB.out|apply below_alloc|apply pw_below_drewN|apply below_drew1)|exact HB.out)⟩
                   ·rw [if_neg c61] at H
                    have c61b0:(x22_4 == 1) = false:=beq_eq_false_iff_ne.mpr c61
                    have c61b1:(x22_4 != 1) = true:=bne_iff_ne.mpr c61
                    by_cases c69:x22_4 = 0
                    ·rw [if_pos c69] at H
                     have c69b0:(x22_4 == 0) = true:=beq_iff_eq.mpr c69
                     have c69b1:(x22_4 != 0) = false:=bne_eq_false_iff_eq.mpr c69
                     clear c69
                     by_cases c70:t314 = 0
                     ·rw [if_pos c70] at H
                      have c70b0:(t314 == 0) = true:=beq_iff_eq.mpr c70
                      have c70b1:(t314 != 0) = false:=bne_eq_false_iff_eq.mpr c70
                      clear c70
                      have H':=Aside0.mk H
                      clear H
                      go_wp2_with (first|((with_reducible refine gate_callee (f:=38) rfl ?_);refine goesL_ (some 120) rfl rfl Try.func38 (by kernel_rfl) rfl #[.slice Ao50 t289.length co50] rfl (by (try simp only [List.map_toArray,List.map_cons,List.map_nil]);first|done|rfl|(simp only [List.length_drop,List.length_take];rfl)) ?_;(with_reducible refine (impl_GoodLengths.calls k4 _ _ t289 true _ ?side1 ?side2 A56.out).mono ?_);(case side1=>repeat (first|exact (Kd.R_reads' HO_6.out).2.2|(with_reducible refine Kd.C_alloc ?_ _)|(with_reducible refine Kd.C_drewN ?_ _)|(with_reducible refine Kd.C_drew ?_)));(case side2=>exact (Kd.R_reads' HO_6.out).2.1);rintro e w71 ⟨rfl,hb⟩;refine ⟨_,rfl,?_⟩;have n0_:=Aside0.mk (Kd.R_below (by (with_reducible repeat (first|apply Kd.R_alloc|apply Kd.R_drewN|apply Kd.R_drew));exact HO_6.out) hb);have n1_:=Aside0.mk (Kd.R_below (by (with_reducible repeat (first|apply Kd.R_alloc|apply Kd.R_drewN|apply Kd.R_drew));exact HO_108.out) hb);have n2_:=Aside0.mk (below_step (by repeat (first|(with_reducible first|exact HB.out|apply below_alloc|apply pw_below_drewN|apply below_drew1)|exact HB.out)) hb);clear HO_6;clear HO_108;clear HB;have HO_6:=n0_;have HO_108:=n1_;have HB:=n2_;clear n0_ n1_ n2_;(try clear hb);(try clear hb2);(try clear hk);(try clear hi)))
                      go_meet
                      case rel=>exact ⟨_,H',⟨by have:=HJ7.out;have:=HJ20.out;have:=HJ27.out;have:=HK4.out;first|omega|exact Nat.le_refl _⟩,⟨by repeat (first|(with_reducible first|exact HB.out|apply below_alloc|apply pw_below_drewN|apply below_drew1)|exact HB.out)⟩⟩
                     ·rw [if_neg c70] at H
                      have c70b0:(t314 == 0) = false:=beq_eq_false_iff_ne.mpr c70
                      have c70b1:(t314 != 0) = true:=bne_iff_ne.mpr c70
                      obtain rfl:=Option.some.inj H
                      go_wp2_with (first|((with_reducible refine gate_callee (f:=38) rfl ?_);refine goesL_ (some 120) rfl rfl Try.func38 (by kernel_rfl) rfl #[.slice Ao50 t289.length co50] rfl (by (try simp only [List.map_toArray,List.map_cons,List.map_nil]);first|done|rfl|(simp only [List.length_drop,List.length_take];rfl)) ?_;(with_reducible refine (impl_GoodLengths.calls k4 _ _ t289 true _ ?side1 ?side2 A56.out).mono ?_);(case side1=>repeat (first|exact (Kd.R_reads' HO_6.out).2.2|(with_reducible refine Kd.C_alloc ?_ _)|(with_reducible refine Kd.C_drewN ?_ _)|(with_reducible refine Kd.C_drew ?_)));(case side2=>exact (Kd.R_reads' HO_6.out).2.1);rintro e w72 ⟨rfl,hb⟩;refine ⟨_,rfl,?_⟩;have n0_:=Aside0.mk (Kd.R_below (by (with_reducible repeat (first|apply Kd.R_alloc|apply Kd.R_drewN|apply Kd.R_drew));exact HO_6.out) hb);have n1_:=Aside0.mk (Kd.R_below (by (with_reducible repeat (first|apply Kd.R_alloc|apply Kd.R_drewN|apply Kd.R_drew));exact HO_108.out) hb);have n2_:=Aside0.mk (below_step (by repeat (first|(with_reducible first|exact HB.out|apply below_alloc|apply pw_below_drewN|apply below_drew1)|exact HB.out)) hb);clear HO_6;clear HO_108;clear HB;have HO_6:=n0_;have HO_108:=n1_;have HB:=n2_;clear n0_ n1_ n2_;(try clear hb);(try clear hb2);(try clear hk);(try clear hi)))
                      go_ret
                      exact ⟨by first|rfl|(simp [errW_none,errW_some] <;> rfl)|(simp [*,errW_none,errW_some] <;> rfl),by repeat (first|(with_reducible first|exact HB.out|apply below_alloc|apply pw_below_drewN|apply below_drew1)|exact HB.out)⟩
                    ·rw [if_neg c69] at H
                     have c69b0:(x22_4 == 0) = false:=beq_eq_false_iff_ne.mpr c69
                     have c69b1:(x22_4 != 0) = true:=bne_iff_ne.mpr c69
                     have H':=Aside0.mk H
                     clear H
                     go_wp2_with (first|((with_reducible refine gate_callee (f:=38) rfl ?_);refine goesL_ (some 120) rfl rfl Try.func38 (by kernel_rfl) rfl #[.slice Ao50 t289.length co50] rfl (by (try simp only [List.map_toArray,List.map_cons,List.map_nil]);first|done|rfl|(simp only [List.length_drop,List.length_take];rfl)) ?_;(with_reducible refine (impl_GoodLengths.calls k4 _ _ t289 true _ ?side1 ?side2 A56.out).mono ?_);(case side1=>repeat (first|exact (Kd.R_reads' HO_6.out).2.2|(with_reducible refine Kd.C_alloc ?_ _)|(with_reducible refine Kd.C_drewN ?_ _)|(with_reducible refine Kd.C_drew ?_)));(case side2=>exact (Kd.R_reads' HO_6.out).2.1);rintro e w73 ⟨rfl,hb⟩;refine ⟨_,rfl,?_⟩;have n0_:=Aside0.mk (Kd.R_below (by (with_reducible repeat (first|apply Kd.R_alloc|apply Kd.R_drewN|apply Kd.R_drew));exact HO_6.out) hb);have n1_:=Aside0.mk (Kd.R_below (by (with_reducible repeat (first|apply Kd.R_alloc|apply Kd.R_drewN|apply Kd.R_drew));exact HO_108.out) hb);have n2_:=Aside0.mk (below_step (by repeat (first|(with_reducible first|exact HB.out|apply below_alloc|apply pw_below_drewN|apply below_drew1)|exact HB.out)) hb);clear HO_6;clear HO_108;clear HB;have HO_6:=n0_;have HO_108:=n1_;have HB:=n2_;clear n0_ n1_ n2_;(try clear hb);(try clear hb2);(try clear hk);(try clear hi)))
                     go_meet
                     case rel=>exact ⟨_,H',⟨by have:=HJ7.out;have:=HJ20.out;have:=HJ27.out;have:=HK4.out;first|omega|exact Nat.le_refl _⟩,⟨by repeat (first|(with_reducible first|exact HB.out|apply below_alloc|apply pw_below_drewN|apply below_drew1)|exact HB.out)⟩⟩
                  ·rw [if_neg c60] at H
                   have c60b0:(t314 == 4096) = false:=beq_eq_false_iff_ne.mpr c60
                   have c60b1:(t314 != 4096) = true:=bne_iff_ne.mpr c60
                   obtain rfl:=Option.some.inj H
                   go_wp2_with (first|((with_reducible refine gate_callee (f:=38) rfl ?_);refine goesL_ (some 120) rfl rfl Try.func38 (by kernel_rfl) rfl #[.slice Ao50 t289.length co50] rfl (by (try simp only [List.map_toArray,List.map_cons,List.map_nil]);first|done|rfl|(simp only [List.length_drop,List.length_take];rfl)) ?_;(with_reducible refine (impl_GoodLengths.calls k4 _ _ t289 true _ ?side1 ?side2 A56.out).mono ?_);(case side1=>repeat (first|exact (Kd.R_reads' HO_6.out).2.2|(with_reducible refine Kd.C_alloc ?_ _)|(with_reducible refine Kd.C_drewN ?_ _)|(with_reducible refine Kd.C_drew ?_)));(case side2=>exact (Kd.R_reads' HO_6.out).2.1);rintro e w74 ⟨rfl,hb⟩;refine ⟨_,rfl,?_⟩;have n0_:=Aside0.mk (Kd.R_below (by (with_reducible repeat (first|apply Kd.R_alloc|apply Kd.R_drewN|apply Kd.R_drew));exact HO_6.out) hb);have n1_:=Aside0.mk (Kd.R_below (by (with_reducible repeat (first|apply Kd.R_alloc|apply Kd.R_drewN|apply Kd.R_drew));exact HO_108.out) hb);have n2_:=Aside0.mk (below_step (by repeat (first|(with_reducible first|exact HB.out|apply below_alloc|apply pw_below_drewN|apply below_drew1)|exact HB.out)) hb);clear HO_6;clear HO_108;clear HB;have HO_6:=n0_;have HO_108:=n1_;have HB:=n2_;clear n0_ n1_ n2_;(try clear hb);(try clear hb2);(try clear hk);(try clear hi)))
                   go_ret
                   exact ⟨by first|rfl|(simp [errW_none,errW_some] <;> rfl)|(simp [*,errW_none,errW_some] <;> rfl),by repeat (first|(with_reducible first|exact HB.out|apply below_alloc|apply pw_below_drewN|apply below_drew1)|exact HB.out)⟩
                 ·rw [if_neg c59] at H
                  have c59b0:decide (1 < x22_4) = false:=decide_eq_false c59
                  clear c59
                  by_cases c75:x22_4 = 1
                  ·rw [if_pos c75] at H
                   have c75b0:(x22_4 == 1) = true:=beq_iff_eq.mpr c75
                   have c75b1:(x22_4 != 1) = false:=bne_eq_false_iff_eq.mpr c75
                   clear c75
                   by_cases c76:t314 = 2048
                   ·rw [if_pos c76] at H
                    have c76b0:(t314 == 2048) = true:=beq_iff_eq.mpr c76
                    have c76b1:(t314 != 2048) = false:=bne_eq_false_iff_eq.mpr c76
                    clear c76
                    by_cases c77:x22_4 = 0
                    ·rw [if_pos c77] at H
                     have c77b0:(x22_4 == 0) = true:=beq_iff_eq.mpr c77
                     have c77b1:(x22_4 != 0) = false:=bne_eq_false_iff_eq.mpr c77
                     clear c77
                     by_cases c78:t314 = 0
                     ·rw [if_pos c78] at H
                      have c78b0:(t314 == 0) = true:=beq_iff_eq.mpr c78
                      have c78b1:(t314 != 0) = false:=bne_eq_false_iff_eq.mpr c78
                      clear c78
                      have H':=Aside0.mk H
                      clear H
                      go_wp2_with (first|((with_reducible refine gate_callee (f:=38) rfl ?_);refine goesL_ (some 120) rfl rfl Try.func38 (by kernel_rfl) rfl #[.slice Ao50 t289.length co50] rfl (by (try simp only [List.map_toArray,List.map_cons,List.map_nil]);first|done|rfl|(simp only [List.length_drop,List.length_take];rfl)) ?_;(with_reducible refine (impl_GoodLengths.calls k4 _ _ t289 true _ ?side1 ?side2 A56.out).mono ?_);(case side1=>repeat (first|exact (Kd.R_reads' HO_6.out).2.2|(with_reducible refine Kd.C_alloc ?_ _)|(with_reducible refine Kd.C_drewN ?_ _)|(with_reducible refine Kd.C_drew ?_)));(case side2=>exact (Kd.R_reads' HO_6.out).2.1);rintro e w79 ⟨rfl,hb⟩;refine ⟨_,rfl,?_⟩;have n0_:=Aside0.mk (Kd.R_below (by (with_reducible repeat (first|apply Kd.R_alloc|apply Kd.R_drewN|apply Kd.R_drew));exact HO_6.out) hb);have n1_:=Aside0.mk (Kd.R_below (by (with_reducible repeat (first|apply Kd.R_alloc|apply Kd.R_drewN|apply Kd.R_drew));exact HO_108.out) hb);have n2_:=Aside0.mk (below_step (by repeat (first|(with_reducible first|exact HB.out|apply below_alloc|apply pw_below_drewN|apply below_drew1)|exact HB.out)) hb);clear HO_6;clear HO_108;clear HB;have HO_6:=n0_;have HO_108:=n1_;have HB:=n2_;clear n0_ n1_ n2_;(try clear hb);(try clear hb2);(try clear hk);(try clear hi)))
                      go_meet
                      case rel=>exact ⟨_,H',⟨by have:=HJ7.out;have:=HJ20.out;have:=HJ27.out;have:=HK4.out;first|omega|exact Nat.le_refl _⟩,⟨by repeat (first|(with_reducible first|exact HB.out|apply below_alloc|apply pw_below_drewN|apply below_drew1)|exact HB.out)⟩⟩
                     ·rw [if_neg c78] at H
                      have c78b0:(t314 == 0) = false:=beq_eq_false_iff_ne.mpr c78
                      have c78b1:(t314 != 0) = true:=bne_iff_ne.mpr c78
                      obtain rfl:=Option.some.inj H
                      go_wp2_with (first|((with_reducible refine gate_callee (f:=38) rfl ?_);refine goesL_ (some 120) rfl rfl Try.func38 (by kernel_rfl) rfl #[.slice Ao50 t289.length co50] rfl (by (try simp only [List.map_toArray,List.map_cons,List.map_nil]);first|done|rfl|(simp only [List.length_drop,List.length_take];rfl)) ?_;(with_reducible refine (impl_GoodLengths.calls k4 _ _ t289 true _ ?side1 ?side2 A56.out).mono ?_);(case side1=>repeat (first|exact (Kd.R_reads' HO_6.out).2.2|(with_reducible refine Kd.C_alloc ?_ _)|(with_reducible refine Kd.C_drewN ?_ _)|(with_reducible refine Kd.C_drew ?_)));(case side2=>exact (Kd.R_reads' HO_6.out).2.1);rintro e w80 ⟨rfl,hb⟩;refine ⟨_,rfl,?_⟩;have n0_:=Aside0.mk (Kd.R_below (by (with_reducible repeat (first|apply Kd.R_alloc|apply Kd.R_drewN|apply Kd.R_drew));exact HO_6.out) hb);have n1_:=Aside0.mk (Kd.R_below (by (with_reducible repeat (first|apply Kd.R_alloc|apply Kd.R_drewN|apply Kd.R_drew));exact HO_108.out) hb);have n2_:=Aside0.mk (below_step (by repeat (first|(with_reducible first|exact HB.out|apply below_alloc|apply pw_below_drewN|apply below_drew1)|exact HB.out)) hb);clear HO_6;clear HO_108;clear HB;have HO_6:=n0_;have HO_108:=n1_;have HB:=n2_;clear n0_ n1_ n2_;(try clear hb);(try clear hb2);(try clear hk);(try clear hi)))
                      go_ret
                      exact ⟨by first|rfl|(simp [errW_none,errW_some] <;> rfl)|(simp [*,errW_none,errW_some] <;> rfl),by repeat (first|(with_reducible first|exact HB.out|apply below_alloc|apply pw_below_drewN|apply below_drew1)|exact HB.out)⟩
                    ·rw [if_neg c77] at H
                     have c77b0:(x22_4 == 0) = false:=beq_eq_false_iff_ne.mpr c77
                     have c77b1:(x22_4 != 0) = true:=bne_iff_ne.mpr c77
                     have H':=Aside0.mk H
                     clear H
                     go_wp2_with (first|((with_reducible refine gate_callee (f:=38) rfl ?_);refine goesL_ (some 120) rfl rfl Try.func38 (by kernel_rfl) rfl #[.slice Ao50 t289.length co50] rfl (by (try simp only [List.map_toArray,List.map_cons,List.map_nil]);first|done|rfl|(simp only [List.length_drop,List.length_take];rfl)) ?_;(with_reducible refine (impl_GoodLengths.calls k4 _ _ t289 true _ ?side1 ?side2 A56.out).mono ?_);(case side1=>repeat (first|exact (Kd.R_reads' HO_6.out).2.2|(with_reducible refine Kd.C_alloc ?_ _)|(with_reducible refine Kd.C_drewN ?_ _)|(with_reducible refine Kd.C_drew ?_)));(case side2=>exact (Kd.R_reads' HO_6.out).2.1);rintro e w81 ⟨rfl,hb⟩;refine ⟨_,rfl,?_⟩;have n0_:=Aside0.mk (Kd.R_below (by (with_reducible repeat (first|apply Kd.R_alloc|apply Kd.R_drewN|apply Kd.R_drew));exact HO_6.out) hb);have n1_:=Aside0.mk (Kd.R_below (by (with_reducible repeat (first|apply Kd.R_alloc|apply Kd.R_drewN|apply Kd.R_drew));exact HO_108.out) hb);have n2_:=Aside0.mk (below_step (by repeat (first|(with_reducible first|exact HB.out|apply below_alloc|apply pw_below_drewN|apply below_drew1)|exact HB.out)) hb);clear HO_6;clear HO_108;clear HB;have HO_6:=n0_;have HO_108:=n1_;have HB:=n2_;clear n0_ n1_ n2_;(try clear hb);(try clear hb2);(try clear hk);(try clear hi)))
                     go_meet
                     case rel=>exact ⟨_,H',⟨by have:=HJ7.out;have:=HJ20.out;have:=HJ27.out;have:=HK4.out;first|omega|exact Nat.le_refl _⟩,⟨by repeat (first|(with_reducible first|exact HB.out|apply below_alloc|apply pw_below_drewN|apply below_drew1)|exact HB.out)⟩⟩
                   ·rw [if_neg c76] at H
                    have c76b0:(t314 == 2048) = false:=beq_eq_false_iff_ne.mpr c76
                    have c76b1:(t314 != 2048) = true:=bne_iff_ne.mpr c76
                    obtain rfl:=Option.some.inj H
                    go_wp2_with (first|((with_reducible refine gate_callee (f:=38) rfl ?_);refine goesL_ (some 120) rfl rfl Try.func38 (by kernel_rfl) rfl #[.slice Ao50 t289.length co50] rfl (by (try simp only [List.map_toArray,List.map_cons,List.map_nil]);first|done|rfl|(simp only [List.length_drop,List.length_take];rfl)) ?_;(with_reducible refine (impl_GoodLengths.calls k4 _ _ t289 true _ ?side1 ?side2 A56.out).mono ?_);(case side1=>repeat (first|exact (Kd.R_reads' HO_6.out).2.2|(with_reducible refine Kd.C_alloc ?_ _)|(with_reducible refine Kd.C_drewN ?_ _)|(with_reducible refine Kd.C_drew ?_)));(case side2=>exact (Kd.R_reads' HO_6.out).2.1);rintro e w82 ⟨rfl,hb⟩;refine ⟨_,rfl,?_⟩;have n0_:=Aside0.mk (Kd.R_below (by (with_reducible repeat (first|apply Kd.R_alloc|apply Kd.R_drewN|apply Kd.R_drew));exact HO_6.out) hb);have n1_:=Aside0.mk (Kd.R_below (by (with_reducible repeat (first|apply Kd.R_alloc|apply Kd.R_drewN|apply Kd.R_drew));exact HO_108.out) hb);have n2_:=Aside0.mk (below_step (by repeat (first|(with_reducible first|exact HB.out|apply below_alloc|apply pw_below_drewN|apply below_drew1)|exact HB.out)) hb);clear HO_6;clear HO_108;clear HB;have HO_6:=n0_;have HO_108:=n1_;have HB:=n2_;clear n0_ n1_ n2_;(try clear hb);(try clear hb2);(try clear hk);(try clear hi)))
                    go_ret
                    exact ⟨by first|rfl|(simp [errW_none,errW_some] <;> rfl)|(simp [*,errW_none,errW_some] <;> rfl),by repeat (first|(with_reducible first|exact HB.out|apply below_alloc|apply pw_below_drewN|apply below_drew1)|exact HB.out)⟩
                  ·rw [if_neg c75] at H
                   have c75b0:(x22_4 == 1) = false:=beq_eq_false_iff_ne.mpr c75
                   have c75b1:(x22_4 != 1) = true:=bne_iff_ne.mpr c75
                   by_cases c83:x22_4 = 0
                   ·rw [if_pos c83] at H
                    have c83b0:(x22_4 == 0) = true:=beq_iff_eq.mpr c83
                    have c83b1:(x22_4 != 0) = false:=bne_eq_false_iff_eq.mpr c83
                    clear c83
                    by_cases c84:t314 = 0
                    ·rw [if_pos c84] at H
                     have c84b0:(t314 == 0) = true:=beq_iff_eq.mpr c84
                     have c84b1:(t314 != 0) = false:=bne_eq_false_iff_eq.mpr c84
                     clear c84
                     have H':=Aside0.mk H
                     clear H
                     go_wp2_with (first|((with_reducible refine gate_callee (f:=38) rfl ?_);refine goesL_ (some 120) rfl rfl Try.func38 (by kernel_rfl) rfl #[.slice Ao50 t289.length co50] rfl (by (try simp only [List.map_toArray,List.map_cons,List.map_nil]);first|done|rfl|(simp only [List.length_drop,List.length_take];rfl)) ?_;(with_reducible refine (impl_GoodLengths.calls k4 _ _ t289 true _ ?side1 ?side2 A56.out).mono ?_);(case side1=>repeat (first|exact (Kd.R_reads' HO_6.out).2.2|(with_reducible refine Kd.C_alloc ?_ _)|(with_reducible refine Kd.C_drewN ?_ _)|(with_reducible refine Kd.C_drew ?_)));(case side2=>exact (Kd.R_reads' HO_6.out).2.1);rintro e w85 ⟨rfl,hb⟩;refine ⟨_,rfl,?_⟩;have n0_:=Aside0.mk (Kd.R_below (by (with_reducible repeat (first|apply Kd.R_alloc|apply Kd.R_drewN|apply Kd.R_drew));exact HO_6.out) hb);have n1_:=Aside0.mk (Kd.R_below (by (with_reducible repeat (first|apply Kd.R_alloc|apply Kd.R_drewN|apply Kd.R_drew));exact HO_108.out) hb);have n2_:=Aside0.mk (below_step (by repeat (first|(with_reducible first|exact HB.out|apply below_alloc|apply pw_below_drewN|apply below_drew1)|exact HB.out)) hb);clear HO_6;clear HO_108;clear HB;have HO_6:=n0_;have HO_108:=n1_;have HB:=n2_;clear n0_ n1_ n2_;(try clear hb);(try clear hb2);(try clear hk);(try clear hi)))
                     go_meet
                     case rel=>exact ⟨_,H',⟨by have:=HJ7.out;have:=HJ20.out;have:=HJ27.out;have:=HK4.out;first|omega|exact Nat.le_refl _⟩,⟨by repeat (first|(with_reducible first|exact HB.out|apply below_alloc|apply pw_below_drewN|apply below_drew1)|exact HB.out)⟩⟩
                    ·rw [if_neg c84] at H
                     have c84b0:(t314 == 0) = false:=beq_eq_false_iff_ne.mpr c84
                     have c84b1:(t314 != 0) = true:=bne_iff_ne.mpr c84
                     obtain rfl:=Option.some.inj H
                     go_wp2_with (first|((with_reducible refine gate_callee (f:=38) rfl ?_);refine goesL_ (some 120) rfl rfl Try.func38 (by kernel_rfl) rfl #[.slice Ao50 t289.length co50] rfl (by (try simp only [List.map_toArray,List.map_cons,List.map_nil]);first|done|rfl|(simp only [List.length_drop,List.length_take];rfl)) ?_;(with_reducible refine (impl_GoodLengths.calls k4 _ _ t289 true _ ?side1 ?side2 A56.out).mono ?_);(case side1=>repeat (first|exact (Kd.R_reads' HO_6.out).2.2|(with_reducible refine Kd.C_alloc ?_ _)|(with_reducible refine Kd.C_drewN ?_ _)|(with_reducible refine Kd.C_drew ?_)));(case side2=>exact (Kd.R_reads' HO_6.out).2.1);rintro e w86 ⟨rfl,hb⟩;refine ⟨_,rfl,?_⟩;have n0_:=Aside0.mk (Kd.R_below (by (with_reducible repeat (first|apply Kd.R_alloc|apply Kd.R_drewN|apply Kd.R_drew));exact HO_6.out) hb);have n1_:=Aside0.mk (Kd.R_below (by (with_reducible repeat (first|apply Kd.R_alloc|apply Kd.R_drewN|apply Kd.R_drew));exact HO_108.out) hb);have n2_:=Aside0.mk (below_step (by repeat (first|(with_reducible first|exact HB.out|apply below_alloc|apply pw_below_drewN|apply below_drew1)|exact HB.out)) hb);clear HO_6;clear HO_108;clear HB;have HO_6:=n0_;have HO_108:=n1_;have HB:=n2_;clear n0_ n1_ n2_;(try clear hb);(try clear hb2);(try clear hk);(try clear hi)))
                     go_ret
                     exact ⟨by first|rfl|(simp [errW_none,errW_some] <;> rfl)|(simp [*,errW_none,errW_some] <;> rfl),by repeat (first|(with_reducible first|exact HB.out|apply below_alloc|apply pw_below_drewN|apply below_drew1)|exact HB.out)⟩
                   ·rw [if_neg c83] at H
                    have c83b0:(x22_4 == 0) = false:=beq_eq_false_iff_ne.mpr c83
                    have c83b1:(x22_4 != 0) = true:=bne_iff_ne.mpr c83
                    have H':=Aside0.mk H
                    clear H
                    go_wp2_with (first|((with_reducible refine gate_callee (f:=38) rfl ?_);refine goesL_ (some 120) rfl rfl Try.func38 (by kernel_rfl) rfl #[.slice Ao50 t289.length co50] rfl (by (try simp only [List.map_toArray,List.map_cons,List.map_nil]);first|done|rfl|(simp only [List.length_drop,List.length_take];rfl)) ?_;(with_reducible refine (impl_GoodLengths.calls k4 _ _ t289 true _ ?side1 ?side2 A56.out).mono ?_);(case side1=>repeat (first|exact (Kd.R_reads' HO_6.out).2.2|(with_reducible refine Kd.C_alloc ?_ _)|(with_reducible refine Kd.C_drewN ?_ _)|(with_reducible refine Kd.C_drew ?_)));(case side2=>exact (Kd.R_reads' HO_6.out).2.1);rintro e w87 ⟨rfl,hb⟩;refine ⟨_,rfl,?_⟩;have n0_:=Aside0.mk (Kd.R_below (by (with_reducible repeat (first|apply Kd.R_alloc|apply Kd.R_drewN|apply Kd.R_drew));exact HO_6.out) hb);have n1_:=Aside0.mk (Kd.R_below (by (with_reducible repeat (first|apply Kd.R_alloc|apply Kd.R_drewN|apply Kd.R_drew));exact HO_108.out) hb);have n2_:=Aside0.mk (below_step (by repeat (first|(with_reducible first|exact HB.out|apply below_alloc|apply pw_below_drewN|apply below_drew1)|exact HB.out)) hb);clear HO_6;clear HO_108;clear HB;have HO_6:=n0_;have HO_108:=n1_;have HB:=n2_;clear n0_ n1_ n2_;(try clear hb);(try clear hb2);(try clear hk);(try clear hi)))
                    go_meet
                    case rel=>exact ⟨_,H',⟨by have:=HJ7.out;have:=HJ20.out;have:=HJ27.out;have:=HK4.out;first|omega|exact Nat.le_refl _⟩,⟨by repeat (first|(with_reducible first|exact HB.out|apply below_alloc|apply pw_below_drewN|apply below_drew1)|exact HB.out)⟩⟩
                ·replace c58:=Bool.eq_false_iff.mpr c58
                 subst c58
                 have H1:(some false) = some r:=by rw [if_neg (show ¬ (false = true) by decide)] at H;exact H
                 clear H
                 have H:=H1
                 clear H1
                 obtain rfl:=Option.some.inj H
                 go_wp2_with (first|((with_reducible refine gate_callee (f:=38) rfl ?_);refine goesL_ (some 120) rfl rfl Try.func38 (by kernel_rfl) rfl #[.slice Ao50 t289.length co50] rfl (by (try simp only [List.map_toArray,List.map_cons,List.map_nil]);first|done|rfl|(simp only [List.length_drop,List.length_take];rfl)) ?_;(with_reducible refine (impl_GoodLengths.calls k4 _ _ t289 true _ ?side1 ?side2 A56.out).mono ?_);(case side1=>repeat (first|exact (Kd.R_reads' HO_6.out).2.2|(with_reducible refine Kd.C_alloc ?_ _)|(with_reducible refine Kd.C_drewN ?_ _)|(with_reducible refine Kd.C_drew ?_)));(case side2=>exact (Kd.R_reads' HO_6.out).2.1);rintro e w88 ⟨rfl,hb⟩;refine ⟨_,rfl,?_⟩;have n0_:=Aside0.mk (Kd.R_below (by (with_reducible repeat (first|apply Kd.R_alloc|apply Kd.R_drewN|apply Kd.R_drew));exact HO_6.out) hb);have n1_:=Aside0.mk (Kd.R_below (by (with_reducible repeat (first|apply Kd.R_alloc|apply Kd.R_drewN|apply Kd.R_drew));exact HO_108.out) hb);have n2_:=Aside0.mk (below_step (by repeat (first|(with_reducible first|exact HB.out|apply below_alloc|apply pw_below_drewN|apply below_drew1)|exact HB.out)) hb);clear HO_6;clear HO_108;clear HB;have HO_6:=n0_;have HO_108:=n1_;have HB:=n2_;clear n0_ n1_ n2_;(try clear hb);(try clear hb2);(try clear hk);(try clear hi)))
                 go_ret
                 exact ⟨by first|rfl|(simp [errW_none,errW_some] <;> rfl)|(simp [*,errW_none,errW_some] <;> rfl),by repeat (first|(with_reducible first|exact HB.out|apply below_alloc|apply pw_below_drewN|apply below_drew1)|exact HB.out)⟩
               ·replace c57:=Bool.eq_false_iff.mpr c57
                subst c57
                have H1:(some false) = some r:=by rw [if_neg (show ¬ (false = true) by decide)] at H;exact H
                clear H
                have H:=H1
                clear H1
                obtain rfl:=Option.some.inj H
                go_wp2_with (first|((with_reducible refine gate_callee (f:=38) rfl ?_);refine goesL_ (some 120) rfl rfl Try.func38 (by kernel_rfl) rfl #[.slice Ao50 t289.length co50] rfl (by (try simp only [List.map_toArray,List.map_cons,List.map_nil]);first|done|rfl|(simp only [List.length_drop,List.length_take];rfl)) ?_;(with_reducible refine (impl_GoodLengths.calls k4 _ _ t289 false _ ?side1 ?side2 A56.out).mono ?_);(case side1=>repeat (first|exact (Kd.R_reads' HO_6.out).2.2|(with_reducible refine Kd.C_alloc ?_ _)|(with_reducible refine Kd.C_drewN ?_ _)|(with_reducible refine Kd.C_drew ?_)));(case side2=>exact (Kd.R_reads' HO_6.out).2.1);rintro e w89 ⟨rfl,hb⟩;refine ⟨_,rfl,?_⟩;have n0_:=Aside0.mk (Kd.R_below (by (with_reducible repeat (first|apply Kd.R_alloc|apply Kd.R_drewN|apply Kd.R_drew));exact HO_6.out) hb);have n1_:=Aside0.mk (Kd.R_below (by (with_reducible repeat (first|apply Kd.R_alloc|apply Kd.R_drewN|apply Kd.R_drew));exact HO_108.out) hb);have n2_:=Aside0.mk (below_step (by repeat (first|(with_reducible first|exact HB.out|apply below_alloc|apply pw_below_drewN|apply below_drew1)|exact HB.out)) hb);clear HO_6;clear HO_108;clear HB;have HO_6:=n0_;have HO_108:=n1_;have HB:=n2_;clear n0_ n1_ n2_;(try clear hb);(try clear hb2);(try clear hk);(try clear hi)))
                go_ret
                exact ⟨by first|rfl|(simp [errW_none,errW_some] <;> rfl)|(simp [*,errW_none,errW_some] <;> rfl),by repeat (first|(with_reducible first|exact HB.out|apply below_alloc|apply pw_below_drewN|apply below_drew1)|exact HB.out)⟩
           ·replace c48:=Bool.eq_false_iff.mpr c48
            subst c48
            have H1:(laws_FnHuffman.j4 kj27 l1) = some r:=by rw [if_neg (show ¬ (false = true) by decide)] at H;exact H
            clear H
            have H:=H1
            clear H1
            have H':=Aside0.mk H
            clear H
            go_wp2
            go_meet
            case rel=>exact ⟨_,H',⟨by have:=HJ7.out;have:=HJ20.out;have:=HJ27.out;first|omega|exact Nat.le_refl _⟩,⟨by repeat (first|(with_reducible first|exact HB.out|apply below_alloc|apply pw_below_drewN|apply below_drew1)|exact HB.out)⟩⟩
          case rest =>
           clear HC47
           try clear c1
           try clear c2
           try clear p2
           try clear c3
           try clear p3
           try clear q3
           try clear hx3
           try clear c4
           try clear c5
           try clear c6
           try clear p6
           try clear c7
           try clear c8
           try clear c13
           try clear c13b0
           try clear c13b1
           try clear c13b2
           try clear c17
           try clear c26
           try clear c26b0
           try clear c26b1
           try clear c26b2
           try clear c27
           try clear c28
           try clear c29
           try clear p31
           try clear q31
           try clear hx31
           try clear c32
           try clear c33
           try clear c34
           try clear c34b0
           try clear c35
           try clear c36
           try clear c37
           try clear c38
           try clear c48
           try clear c52
           try clear c52b0
           try clear c53
           try clear c53b0
           try clear c54
           try clear c54b0
           try clear c55
           try clear c55b0
           try clear c57
           try clear c58
           try clear c59
           try clear c59b0
           try clear c60
           try clear c60b0
           try clear c60b1
           try clear c61
           try clear c61b0
           try clear c61b1
           try clear c62
           try clear c62b0
           try clear c62b1
           try clear c63
           try clear c63b0
           try clear c63b1
           try clear c64
           try clear c64b0
           try clear c64b1
           try clear p64
           try clear c69
           try clear c69b0
           try clear c69b1
           try clear c70
           try clear c70b0
           try clear c70b1
           try clear c75
           try clear c75b0
           try clear c75b1
           try clear c76
           try clear c76b0
           try clear c76b1
           try clear c77
           try clear c77b0
           try clear c77b1
           try clear c78
           try clear c78b0
           try clear c78b1
           try clear c83
           try clear c83b0
           try clear c83b1
           try clear c84
           try clear c84b0
           try clear c84b1
           try clear hx316_0
           try clear p2
           try clear p316
           try clear q316
           obtain ⟨kq,HA,HJ46,HB⟩:=hcut
           cases kq with
           | zero=>exact absurd HA.out (by simp [laws_FnHuffman.j4])
           | succ kj46 =>
            have H:=HA.out
            clear HA
            simp only [laws_FnHuffman.j4] at H
            replace H:=Option.bind_eq_some_iff.mp H
            obtain ⟨t318,A900,H⟩:=H
            replace H:((impl_KraftOf.f kj46 t318).bind fun bt321=>((spec_KraftOf.f kj46 t318).bind fun bt323=>(if (bt321.2 == bt323.2) = true then (if bt321.1 = bt323.1 then ((impl_GoodLengths.f kj46 t318).bind fun t325=>((spec_GoodLengths.f kj46 t318).bind fun t326=>(some (t325 == t326)))) else (some false)) else (some false)))) = some r:=H
            have A90:=Aside0.mk A900
            clear A900
            replace H:=Option.bind_eq_some_iff.mp H
            obtain ⟨⟨t321,t322⟩,A910,H⟩:=H
            replace H:((spec_KraftOf.f kj46 t318).bind fun bt323=>(if (t322 == bt323.2) = true then (if t321 = bt323.1 then ((impl_GoodLengths.f kj46 t318).bind fun t325=>((spec_GoodLengths.f kj46 t318).bind fun t326=>(some (t325 == t326)))) else (some false)) else (some false))) = some r:=H
            have A91:=Aside0.mk A910
            clear A910
            replace H:=Option.bind_eq_some_iff.mp H
            obtain ⟨⟨t323,t324⟩,A920,H⟩:=H
            replace H:(if (t322 == t324) = true then (if t321 = t323 then ((impl_GoodLengths.f kj46 t318).bind fun t325=>((spec_GoodLengths.f kj46 t318).bind fun t326=>(some (t325 == t326)))) else (some false)) else (some false)) = some r:=H
            have A92:=Aside0.mk A920
            clear A920
            by_cases c93:(t322 == t324) = true
            ·rw [if_pos c93] at H
             have c93b0:(t322 == t324) = true:=c93
             (try (have c93b1:decide (t322 = t324) = true:=by simpa using c93))
             (try (have c93b2:(t322 == t324) = true:=by simpa using c93))
             clear c93
             by_cases c94:t321 = t323
             ·rw [if_pos c94] at H
              have c94b0:(t321 == t323) = true:=beq_iff_eq.mpr c94
              have c94b1:(t321 != t323) = false:=bne_eq_false_iff_eq.mpr c94
              clear c94
              replace H:=Option.bind_eq_some_iff.mp H
              obtain ⟨t325,A950,H⟩:=H
              replace H:((spec_GoodLengths.f kj46 t318).bind fun t326=>(some (t325 == t326))) = some r:=H
              have A95:=Aside0.mk A950
              clear A950
              replace H:=Option.bind_eq_some_iff.mp H
              obtain ⟨t326,A960,H⟩:=H
              replace H:(some (t325 == t326)) = some r:=H
              have A96:=Aside0.mk A960
              clear A960
              obtain rfl:=Option.some.inj H
              go_wp2_with (first|((with_reducible refine gate_callee (f:=39) rfl ?_);refine goesL_ (some 151) rfl rfl Try.func39 (by kernel_rfl) rfl #[.slice A1 l1.length c1] rfl (by (try simp only [List.map_toArray,List.map_cons,List.map_nil]);first|done|rfl|(simp only [List.length_drop,List.length_take];rfl)) ?_;(with_reducible refine (spec_DrawKraftOf.calls kj46 _ _ l1 t318 _ ?side1 ?side2 A90.out).mono ?_);(case side1=>repeat (first|exact (Kd.C_below HR1.out HB.out)|(with_reducible refine Kd.C_alloc ?_ _)|(with_reducible refine Kd.C_drewN ?_ _)|(with_reducible refine Kd.C_drew ?_)));(case side2=>exact HC1.out);rintro e w97 ⟨v319,rfl,ho0,hb⟩;refine ⟨_,rfl,?_⟩;have n0_:=Aside0.mk (Kd.R_lower ho0 (below_size (by repeat (first|(with_reducible first|exact HB.out|apply below_alloc|apply pw_below_drewN|apply below_drew1)|exact HB.out))));have n1_:=Aside0.mk (below_step (by repeat (first|(with_reducible first|exact HB.out|apply below_alloc|apply pw_below_drewN|apply below_drew1)|exact HB.out)) hb);clear HB;have HO320:=n0_;have HB:=n1_;clear n0_ n1_;(try clear hb);(try clear hb2);(try clear hk);(try clear hi);(try clear ho0);obtain ⟨Ao98,co98,eo98⟩:=Kd.R_slice HO320.out;subst eo98)|((with_reducible refine gate_callee (f:=37) rfl ?_);refine goesL_ (some 154) rfl rfl Try.func37 (by kernel_rfl) rfl #[.slice Ao98 t318.length co98] rfl (by (try simp only [List.map_toArray,List.map_cons,List.map_nil]);first|done|rfl|(simp only [List.length_drop,List.length_take];rfl)) ?_;(with_reducible refine (impl_KraftOf.calls kj46 _ _ t318 t321 t322 _ ?side1 ?side2 A91.out).mono ?_);(case side1=>repeat (first|exact (Kd.R_reads' HO320.out).2.2|(with_reducible refine Kd.C_alloc ?_ _)|(with_reducible refine Kd.C_drewN ?_ _)|(with_reducible refine Kd.C_drew ?_)));(case side2=>exact (Kd.R_reads' HO320.out).2.1);rintro e w99 ⟨rfl,hb⟩;refine ⟨_,rfl,?_⟩;have n0_:=Aside0.mk (Kd.R_below (by (with_reducible repeat (first|apply Kd.R_alloc|apply Kd.R_drewN|apply Kd.R_drew));exact HO320.out) hb);have n1_:=Aside0.mk (below_step (by repeat (first|(with_reducible first|exact HB.out|apply below_alloc|apply pw_below_drewN|apply below_drew1)|exact HB.out)) hb);clear HO320;clear HB;have HO320:=n0_;have HB:=n1_;clear n0_ n1_;(try clear hb);(try clear hb2);(try clear hk);(try clear hi))|((with_reducible refine gate_callee (f:=40) rfl ?_);refine goesL_ (some 159) rfl rfl Try.func40 (by kernel_rfl) rfl #[.slice Ao98 t318.length co98] rfl (by (try simp only [List.map_toArray,List.map_cons,List.map_nil]);first|done|rfl|(simp only [List.length_drop,List.length_take];rfl)) ?_;(with_reducible refine (spec_KraftOf.calls kj46 _ _ t318 t323 t324 _ ?side1 ?side2 A92.out).mono ?_);(case side1=>repeat (first|exact (Kd.R_reads' HO320.out).2.2|(with_reducible refine Kd.C_alloc ?_ _)|(with_reducible refine Kd.C_drewN ?_ _)|(with_reducible refine Kd.C_drew ?_)));(case side2=>exact (Kd.R_reads' HO320.out).2.1);rintro e w' ⟨rfl,⟨nd,rfl⟩⟩;refine ⟨_,rfl,?_⟩)|(go_at_call 38;(with_reducible refine (impl_GoodLengths.calls kj46 _ _ t318 t325 _ ?side1 ?side2 A95.out).mono ?_);(case side1=>repeat (first|exact (Kd.R_reads' HO320.out).2.2|(with_reducible refine Kd.C_alloc ?_ _)|(with_reducible refine Kd.C_drewN ?_ _)|(with_reducible refine Kd.C_drew ?_)));(case side2=>exact (Kd.R_reads' HO320.out).2.1);rintro e w100 ⟨rfl,hb⟩;have n0_:=Aside0.mk (Kd.R_below (by (with_reducible repeat (first|apply Kd.R_alloc|apply Kd.R_drewN|apply Kd.R_drew));exact HO320.out) hb);have n1_:=Aside0.mk (below_step (by repeat (first|(with_reducible first|exact HB.out|apply below_alloc|apply pw_below_drewN|apply below_drew1)|exact HB.out)) hb);clear HO320;clear HB;have HO320:=n0_;have HB:=n1_;clear n0_ n1_;(try clear hb);(try clear hb2);(try clear hk);(try clear hi))|(go_at_call 41;(with_reducible refine (spec_GoodLengths.calls kj46 _ _ t318 t326 _ ?side1 ?side2 A96.out).mono ?_);(case side1=>repeat (first|exact (Kd.R_reads' HO320.out).2.2|(with_reducible refine Kd.C_alloc ?_ _)|(with_reducible refine Kd.C_drewN ?_ _)|(with_reducible refine Kd.C_drew ?_)));(case side2=>exact (Kd.R_reads' HO320.out).2.1);rintro e w' ⟨rfl,⟨nd,rfl⟩⟩))
              go_ret
              exact ⟨by first|rfl|(simp [errW_none,errW_some] <;> rfl)|(simp [*,errW_none,errW_some] <;> rfl),by repeat (first|(with_reducible first|exact HB.out|apply below_alloc|apply pw_below_drewN|apply below_drew1)|exact HB.out)⟩
             ·rw [if_neg c94] at H
              have c94b0:(t321 == t323) = false:=beq_eq_false_iff_ne.mpr c94
              have c94b1:(t321 != t323) = true:=bne_iff_ne.mpr c94
              obtain rfl:=Option.some.inj H
              go_wp2_with (first|((with_reducible refine gate_callee (f:=39) rfl ?_);refine goesL_ (some 151) rfl rfl Try.func39 (by kernel_rfl) rfl #[.slice A1 l1.length c1] rfl (by (try simp only [List.map_toArray,List.map_cons,List.map_nil]);first|done|rfl|(simp only [List.length_drop,List.length_take];rfl)) ?_;(with_reducible refine (spec_DrawKraftOf.calls kj46 _ _ l1 t318 _ ?side1 ?side2 A90.out).mono ?_);(case side1=>repeat (first|exact (Kd.C_below HR1.out HB.out)|(with_reducible refine Kd.C_alloc ?_ _)|(with_reducible refine Kd.C_drewN ?_ _)|(with_reducible refine Kd.C_drew ?_)));(case side2=>exact HC1.out);rintro e w101 ⟨v319,rfl,ho0,hb⟩;refine ⟨_,rfl,?_⟩;have n0_:=Aside0.mk (Kd.R_lower ho0 (below_size (by repeat (first|(with_reducible first|exact HB.out|apply below_alloc|apply pw_below_drewN|apply below_drew1)|exact HB.out))));have n1_:=Aside0.mk (below_step (by repeat (first|(with_reducible first|exact HB.out|apply below_alloc|apply pw_below_drewN|apply below_drew1)|exact HB.out)) hb);clear HB;have HO320:=n0_;have HB:=n1_;clear n0_ n1_;(try clear hb);(try clear hb2);(try clear hk);(try clear hi);(try clear ho0);obtain ⟨Ao102,co102,eo102⟩:=Kd.R_slice HO320.out;subst eo102)|((with_reducible refine gate_callee (f:=37) rfl ?_);refine goesL_ (some 154) rfl rfl Try.func37 (by kernel_rfl) rfl #[.slice Ao102 t318.length co102] rfl (by (try simp only [List.map_toArray,List.map_cons,List.map_nil]);first|done|rfl|(simp only [List.length_drop,List.length_take];rfl)) ?_;(with_reducible refine (impl_KraftOf.calls kj46 _ _ t318 t321 t322 _ ?side1 ?side2 A91.out).mono ?_);(case side1=>repeat (first|exact (Kd.R_reads' HO320.out).2.2|(with_reducible refine Kd.C_alloc ?_ _)|(with_reducible refine Kd.C_drewN ?_ _)|(with_reducible refine Kd.C_drew ?_)));(case side2=>exact (Kd.R_reads' HO320.out).2.1);rintro e w103 ⟨rfl,hb⟩;refine ⟨_,rfl,?_⟩;have n0_:=Aside0.mk (Kd.R_below (by (with_reducible repeat (first|apply Kd.R_alloc|apply Kd.R_drewN|apply Kd.R_drew));exact HO320.out) hb);have n1_:=Aside0.mk (below_step (by repeat (first|(with_reducible first|exact HB.out|apply below_alloc|apply pw_below_drewN|apply below_drew1)|exact HB.out)) hb);clear HO320;clear HB;have HO320:=n0_;have HB:=n1_;clear n0_ n1_;(try clear hb);(try clear hb2);(try clear hk);(try clear hi))|((with_reducible refine gate_callee (f:=40) rfl ?_);refine goesL_ (some 159) rfl rfl Try.func40 (by kernel_rfl) rfl #[.slice Ao102 t318.length co102] rfl (by (try simp only [List.map_toArray,List.map_cons,List.map_nil]);first|done|rfl|(simp only [List.length_drop,List.length_take];rfl)) ?_;(with_reducible refine (spec_KraftOf.calls kj46 _ _ t318 t323 t324 _ ?side1 ?side2 A92.out).mono ?_);(case side1=>repeat (first|exact (Kd.R_reads' HO320.out).2.2|(with_reducible refine Kd.C_alloc ?_ _)|(with_reducible refine Kd.C_drewN ?_ _)|(with_reducible refine Kd.C_drew ?_)));(case side2=>exact (Kd.R_reads' HO320.out).2.1);rintro e w' ⟨rfl,⟨nd,rfl⟩⟩;refine ⟨_,rfl,?_⟩))
              go_ret
              exact ⟨by first|rfl|(simp [errW_none,errW_some] <;> rfl)|(simp [*,errW_none,errW_some] <;> rfl),by repeat (first|(with_reducible first|exact HB.out|apply below_alloc|apply pw_below_drewN|apply below_drew1)|exact HB.out)⟩
            ·rw [if_neg c93] at H
             have c93b0:(t322 == t324) = false:=by simpa using c93
             (try (have c93b1:decide (t322 = t324) = false:=by simpa using c93))
             (try (have c93b2:(t322 == t324) = false:=by simpa using c93))
             (try (have c93b3:¬ (t322 = t324):=by simpa using c93))
             clear c93
             obtain rfl:=Option.some.inj H
             go_wp2_with (first|((with_reducible refine gate_callee (f:=39) rfl ?_);refine goesL_ (some 151) rfl rfl Try.func39 (by kernel_rfl) rfl #[.slice A1 l1.length c1] rfl (by (try simp only [List.map_toArray,List.map_cons,List.map_nil]);first|done|rfl|(simp only [List.length_drop,List.length_take];rfl)) ?_;(with_reducible refine (spec_DrawKraftOf.calls kj46 _ _ l1 t318 _ ?side1 ?side2 A90.out).mono ?_);(case side1=>repeat (first|exact (Kd.C_below HR1.out HB.out)|(with_reducible refine Kd.C_alloc ?_ _)|(with_reducible refine Kd.C_drewN ?_ _)|(with_reducible refine Kd.C_drew ?_)));(case side2=>exact HC1.out);rintro e w104 ⟨v319,rfl,ho0,hb⟩;refine ⟨_,rfl,?_⟩;have n0_:=Aside0.mk (Kd.R_lower ho0 (below_size (by repeat (first|(with_reducible first|exact HB.out|apply below_alloc|apply pw_below_drewN|apply below_drew1)|exact HB.out))));have n1_:=Aside0.mk (below_step (by repeat (first|(with_reducible first|exact HB.out|apply below_alloc|apply pw_below_drewN|apply below_drew1)|exact HB.out)) hb);clear HB;have HO320:=n0_;have HB:=n1_;clear n0_ n1_;(try clear hb);(try clear hb2);(try clear hk);(try clear hi);(try clear ho0);obtain ⟨Ao105,co105,eo105⟩:=Kd.R_slice HO320.out;subst eo105)|((with_reducible refine gate_callee (f:=37) rfl ?_);refine goesL_ (some 154) rfl rfl Try.func37 (by kernel_rfl) rfl #[.slice Ao105 t318.length co105] rfl (by (try simp only [List.map_toArray,List.map_cons,List.map_nil]);first|done|rfl|(simp only [List.length_drop,List.length_take];rfl)) ?_;(with_reducible refine (impl_KraftOf.calls kj46 _ _ t318 t321 t322 _ ?side1 ?side2 A91.out).mono ?_);(case side1=>repeat (first|exact (Kd.R_reads' HO320.out).2.2|(with_reducible refine Kd.C_alloc ?_ _)|(with_reducible refine Kd.C_drewN ?_ _)|(with_reducible refine Kd.C_drew ?_)));(case side2=>exact (Kd.R_reads' HO320.out).2.1);rintro e w106 ⟨rfl,hb⟩;refine ⟨_,rfl,?_⟩;have n0_:=Aside0.mk (Kd.R_below (by (with_reducible repeat (first|apply Kd.R_alloc|apply Kd.R_drewN|apply Kd.R_drew));exact HO320.out) hb);have n1_:=Aside0.mk (below_step (by repeat (first|(with_reducible first|exact HB.out|apply below_alloc|apply pw_below_drewN|apply below_drew1)|exact HB.out)) hb);clear HO320;clear HB;have HO320:=n0_;have HB:=n1_;clear n0_ n1_;(try clear hb);(try clear hb2);(try clear hk);(try clear hi))|((with_reducible refine gate_callee (f:=40) rfl ?_);refine goesL_ (some 159) rfl rfl Try.func40 (by kernel_rfl) rfl #[.slice Ao105 t318.length co105] rfl (by (try simp only [List.map_toArray,List.map_cons,List.map_nil]);first|done|rfl|(simp only [List.length_drop,List.length_take];rfl)) ?_;(with_reducible refine (spec_KraftOf.calls kj46 _ _ t318 t323 t324 _ ?side1 ?side2 A92.out).mono ?_);(case side1=>repeat (first|exact (Kd.R_reads' HO320.out).2.2|(with_reducible refine Kd.C_alloc ?_ _)|(with_reducible refine Kd.C_drewN ?_ _)|(with_reducible refine Kd.C_drew ?_)));(case side2=>exact (Kd.R_reads' HO320.out).2.1);rintro e w' ⟨rfl,⟨nd,rfl⟩⟩;refine ⟨_,rfl,?_⟩))
             go_ret
             exact ⟨by first|rfl|(simp [errW_none,errW_some] <;> rfl)|(simp [*,errW_none,errW_some] <;> rfl),by repeat (first|(with_reducible first|exact HB.out|apply below_alloc|apply pw_below_drewN|apply below_drew1)|exact HB.out)⟩

/-- THE ONE PURE STATEMENT of laws_FnHuffman: yours. -/
def laws_FnHuffman.Pure:Prop:=∀ (l0:List Int) (l1:List Int),l0.length ≤ maxLen → l0.length * 1 ≤ 140737488351232 → (∀ x ∈ l0,(Lit.int .u8 x).wf = true) → l1.length ≤ maxLen → l1.length * 1 ≤ 140737488351232 → (∀ x ∈ l1,(Lit.int .u8 x).wf = true) → ∃ k,laws_FnHuffman.f k l0 l1 = some true
theorem laws_FnHuffman.walk (P:laws_FnHuffman.Pure) (a0:Option Addr) (len0 cap0:Nat) (z0:List Int) (a1:Option Addr) (len1 cap1:Nat) (z1:List Int) (w:World) (w0:(a0 = none ∧ len0 = 0 ∧ cap0 = 0 ∧ z0 = []) ∨ ∃ x,a0 = some x ∧ len0 ≤ cap0 ∧ cap0 ≤ maxLen ∧ z0.length = cap0 ∧ (∀ i,i < z0.length → w.cell? (x.add i) = some (.int .u8 (z0.getD i 0))) ∧ ∀ n ∈ z0,(Lit.int .u8 n).wf = true) (y0:len0 * 1 ≤ 140737488351232) (w1:(a1 = none ∧ len1 = 0 ∧ cap1 = 0 ∧ z1 = []) ∨ ∃ x,a1 = some x ∧ len1 ≤ cap1 ∧ cap1 ≤ maxLen ∧ z1.length = cap1 ∧ (∀ i,i < z1.length → w.cell? (x.add i) = some (.int .u8 (z1.getD i 0))) ∧ ∀ n ∈ z1,(Lit.int .u8 n).wf = true) (y1:len1 * 1 ≤ 140737488351232) :
  Calls Try.prog 5 #[.slice a0 len0 cap0,.slice a1 len1 cap1] w fun e w'=>e = .returned (.bool true) ∧ Below w.heap.size w w':=by
 obtain ⟨l0,rfl,hr0,hm0,hw0,hc0⟩:=ReadsInt.ofRowC w0
 obtain ⟨l1,rfl,hr1,hm1,hw1,hc1⟩:=ReadsInt.ofRowC w1
 obtain ⟨k,h⟩:=P l0 l1 hm0 y0 hw0 hm1 y1 hw1
 refine (laws_FnHuffman.calls k _ _ l0 _ _ l1 true w (Kd.C_of_reads (d:=(0:Int)) (h1:=fun _=>rfl) hr0) hc0 (Kd.C_of_reads (d:=(0:Int)) (h1:=fun _=>rfl) hr1) hc1 h).mono ?_
 rintro e w' ⟨rfl,hd⟩
 exact ⟨rfl,hd⟩

end Go.Proofs.Ytmgkflkfoccgkab.QFnHuffman
