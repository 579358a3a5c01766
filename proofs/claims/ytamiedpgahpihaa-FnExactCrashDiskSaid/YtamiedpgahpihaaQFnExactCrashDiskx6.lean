-- Written by this session's own program (wip/x/xprint.py, over the kit's printer); Lean checks it.
import Derived.Test.YtamiedpgahpihaaQFnExactCrashDiskx0
import Derived.Test.YtamiedpgahpihaaQFnExactCrashDiskx1
import Derived.Test.YtamiedpgahpihaaQFnExactCrashDiskx2
import Derived.Test.YtamiedpgahpihaaQFnExactCrashDiskx3
import Derived.Test.YtamiedpgahpihaaQFnExactCrashDiskx5
namespace Go.Proofs.Ytamiedpgahpihaa.QFnExactCrashDisk
open Go.RowKit Go.Proofs.YtamiedpgahpihaaW.PrintWords Go.Proofs.YtamiedpgahpihaaW.PrintLast Go.Proofs.YtamiedpgahpihaaW.PrintMore
attribute [local go_sem] max2_int min2_int max_two min_two max_three min_three max_four min_four   -- for this text's walks alone
set_option linter.unusedVariables false
set_option linter.unusedSimpArgs false

/-! ### laws_FnExactCrashDisk: function 8 -/
mutual
def laws_FnExactCrashDisk.j0:Nat → Int → Int → Bool → Bool → Bool → List ByteArray → List ByteArray → List ByteArray → List ByteArray → List ByteArray → List ByteArray → List ByteArray → List ByteArray → Option (Bool)
 | 0,_,_,_,_,_,_,_,_,_,_,_,_,_=>none
 | k + 1,x1,x2,x9,x12,x48,x219000,x219001,x234000,x234001,x241000,x241001,x249000,x249001=>if x48 = true then (some false) else ((laws_toDisk.f k x219000 x219001).bind fun bt250=>((laws_eqDisk.f k x241000 x241001 bt250.1 bt250.2).bind fun t256=>(if t256 = true then ((laws_markDisk.f k x241000 x241001 1).bind fun bt257=>(if bt257.1 < 0 then (laws_FnExactCrashDisk.j1 k x1 x2 x9 true x219000 x219001 x234000 x234001 x249000 x249001) else ((laws_eqDisk.f k x249000 x249001 x234000 x234001).bind fun t260=>(if t260 = true then (laws_FnExactCrashDisk.j1 k x1 x2 x9 (x12 != x9) x219000 x219001 x234000 x234001 x249000 x249001) else (laws_FnExactCrashDisk.j1 k x1 x2 x9 true x219000 x219001 x234000 x234001 x249000 x249001))))) else (some false))))
def laws_FnExactCrashDisk.j1:Nat → Int → Int → Bool → Bool → List ByteArray → List ByteArray → List ByteArray → List ByteArray → List ByteArray → List ByteArray → Option (Bool)
 | 0,_,_,_,_,_,_,_,_,_,_=>none
 | k + 1,x1,x2,x9,x69,x219000,x219001,x234000,x234001,x249000,x249001=>if x69 = true then (some false) else ((laws_markDisk.f k x249000 x249001 1).bind fun bt261=>((laws_heldDisk.f k bt261.2.1 bt261.2.2 1).bind fun t264=>(if t264 < 0 then (some false) else (if t264 = bt261.1 then ((laws_toDisk.f k x219000 x219001).bind fun bt265=>((impl_CrashDisk.f k bt265.1 bt265.2 x1 x2).bind fun bt271=>((laws_eqDisk.f k bt271.1 bt271.2.1 x234000 x234001).bind fun t279=>(if t279 = true then (laws_FnExactCrashDisk.j2 k bt261.1 (bt271.2.2 != x9) bt261.2.1 bt261.2.2) else (laws_FnExactCrashDisk.j2 k bt261.1 true bt261.2.1 bt261.2.2))))) else (some false)))))
def laws_FnExactCrashDisk.j2:Nat → Int → Bool → List ByteArray → List ByteArray → Option (Bool)
 | 0,_,_,_,_=>none
 | k + 1,x14,x97,x249000,x249001=>if x97 = true then (some false) else ((laws_heldDisk.f k x249000 x249001 1).bind fun t280=>(if t280 < 0 then (some false) else (if t280 = x14 then (some true) else (some false))))
end
def laws_FnExactCrashDisk.f (k:Nat) (l0_0:List ByteArray) (l0_1:List ByteArray) (a1:Int) (a2:Int):Option (Bool):=(laws_szDisk.f k l0_0 l0_1 1048576).bind fun t219=>(if t219 < 0 then (some true) else ((laws_toDisk.f k l0_0 l0_1).bind fun bt220=>((spec_CrashDisk.f k bt220.1 bt220.2 a1 a2).bind fun bt226=>((laws_toDisk.f k l0_0 l0_1).bind fun bt234=>((impl_CrashDisk.f k bt234.1 bt234.2 a1 a2).bind fun bt241=>((laws_eqDisk.f k bt241.1 bt241.2.1 bt226.1 bt226.2.1).bind fun t249=>(if t249 = true then (laws_FnExactCrashDisk.j0 k a1 a2 bt226.2.2 bt241.2.2 (bt241.2.2 != bt226.2.2) l0_0 l0_1 bt226.1 bt226.2.1 bt234.1 bt234.2 bt241.1 bt241.2.1) else (laws_FnExactCrashDisk.j0 k a1 a2 bt226.2.2 bt241.2.2 true l0_0 l0_1 bt226.1 bt226.2.1 bt234.1 bt234.2 bt241.1 bt241.2.1))))))))
theorem laws_FnExactCrashDisk.mono_l:∀ k,(∀ y0 y1 y2 y3 y4 y5 y6 y7 y8 y9 y10 y11 y12,LeO (laws_FnExactCrashDisk.j0 k y0 y1 y2 y3 y4 y5 y6 y7 y8 y9 y10 y11 y12) (laws_FnExactCrashDisk.j0 (k + 1) y0 y1 y2 y3 y4 y5 y6 y7 y8 y9 y10 y11 y12)) ∧ (∀ y0 y1 y2 y3 y4 y5 y6 y7 y8 y9,LeO (laws_FnExactCrashDisk.j1 k y0 y1 y2 y3 y4 y5 y6 y7 y8 y9) (laws_FnExactCrashDisk.j1 (k + 1) y0 y1 y2 y3 y4 y5 y6 y7 y8 y9)) ∧ (∀ y0 y1 y2 y3,LeO (laws_FnExactCrashDisk.j2 k y0 y1 y2 y3) (laws_FnExactCrashDisk.j2 (k + 1) y0 y1 y2 y3))
 | 0=>⟨fun _ _ _ _ _ _ _ _ _ _ _ _ _ r h=>by simp [laws_FnExactCrashDisk.j0] at h,fun _ _ _ _ _ _ _ _ _ _ r h=>by simp [laws_FnExactCrashDisk.j1] at h,fun _ _ _ _ r h=>by simp [laws_FnExactCrashDisk.j2] at h⟩
 | k + 1=>by
  obtain ⟨ih0,ih1,ih2⟩:=laws_FnExactCrashDisk.mono_l k
  refine ⟨?_,?_,?_⟩
  ·intro y0 y1 y2 y3 y4 y5 y6 y7 y8 y9 y10 y11 y12
   unfold laws_FnExactCrashDisk.j0
   repeat' first
   | (with_reducible exact ih0 _ _ _ _ _ _ _ _ _ _ _ _ _)
   | (with_reducible exact ih1 _ _ _ _ _ _ _ _ _ _)
   | (with_reducible exact ih2 _ _ _ _)
   | (with_reducible exact impl_CrashDisk.mono _ _ _ _ _)
   | (with_reducible exact laws_eqDisk.mono _ _ _ _ _)
   | (with_reducible exact laws_heldDisk.mono _ _ _ _)
   | (with_reducible exact laws_markDisk.mono _ _ _ _)
   | (with_reducible exact laws_szDisk.mono _ _ _ _)
   | (with_reducible exact laws_toDisk.mono _ _ _)
   | (with_reducible exact spec_CrashDisk.mono _ _ _ _ _)
   | (with_reducible exact LeO.refl _)
   | (with_reducible exact LeO.none _)
   | (with_reducible refine LeO.ite ?_ ?_)
   | (with_reducible refine LeO.bind ?_ (fun _=>?_))
   | exact ih0 _ _ _ _ _ _ _ _ _ _ _ _ _
   | exact ih1 _ _ _ _ _ _ _ _ _ _
   | exact ih2 _ _ _ _
   | exact impl_CrashDisk.mono _ _ _ _ _
   | exact laws_eqDisk.mono _ _ _ _ _
   | exact laws_heldDisk.mono _ _ _ _
   | exact laws_markDisk.mono _ _ _ _
   | exact laws_szDisk.mono _ _ _ _
   | exact laws_toDisk.mono _ _ _
   | exact spec_CrashDisk.mono _ _ _ _ _
   | exact LeO.none _
   | refine LeO.ite ?_ ?_
   | refine LeO.bind ?_ (fun _=>?_)
  ·intro y0 y1 y2 y3 y4 y5 y6 y7 y8 y9
   unfold laws_FnExactCrashDisk.j1
   repeat' first
   | (with_reducible exact ih0 _ _ _ _ _ _ _ _ _ _ _ _ _)
   | (with_reducible exact ih1 _ _ _ _ _ _ _ _ _ _)
   | (with_reducible exact ih2 _ _ _ _)
   | (with_reducible exact impl_CrashDisk.mono _ _ _ _ _)
   | (with_reducible exact laws_eqDisk.mono _ _ _ _ _)
   | (with_reducible exact laws_heldDisk.mono _ _ _ _)
   | (with_reducible exact laws_markDisk.mono _ _ _ _)
   | (with_reducible exact laws_szDisk.mono _ _ _ _)
   | (with_reducible exact laws_toDisk.mono _ _ _)
   | (with_reducible exact spec_CrashDisk.mono _ _ _ _ _)
   | (with_reducible exact LeO.refl _)
   | (with_reducible exact LeO.none _)
   | (with_reducible refine LeO.ite ?_ ?_)
   | (with_reducible refine LeO.bind ?_ (fun _=>?_))
   | exact ih0 _ _ _ _ _ _ _ _ _ _ _ _ _
   | exact ih1 _ _ _ _ _ _ _ _ _ _
   | exact ih2 _ _ _ _
   | exact impl_CrashDisk.mono _ _ _ _ _
   | exact laws_eqDisk.mono _ _ _ _ _
   | exact laws_heldDisk.mono _ _ _ _
   | exact laws_markDisk.mono _ _ _ _
   | exact laws_szDisk.mono _ _ _ _
   | exact laws_toDisk.mono _ _ _
   | exact spec_CrashDisk.mono _ _ _ _ _
   | exact LeO.none _
   | refine LeO.ite ?_ ?_
   | refine LeO.bind ?_ (fun _=>?_)
  ·intro y0 y1 y2 y3
   unfold laws_FnExactCrashDisk.j2
   repeat' first
   | (with_reducible exact ih0 _ _ _ _ _ _ _ _ _ _ _ _ _)
   | (with_reducible exact ih1 _ _ _ _ _ _ _ _ _ _)
   | (with_reducible exact ih2 _ _ _ _)
   | (with_reducible exact impl_CrashDisk.mono _ _ _ _ _)
   | (with_reducible exact laws_eqDisk.mono _ _ _ _ _)
   | (with_reducible exact laws_heldDisk.mono _ _ _ _)
   | (with_reducible exact laws_markDisk.mono _ _ _ _)
   | (with_reducible exact laws_szDisk.mono _ _ _ _)
   | (with_reducible exact laws_toDisk.mono _ _ _)
   | (with_reducible exact spec_CrashDisk.mono _ _ _ _ _)
   | (with_reducible exact LeO.refl _)
   | (with_reducible exact LeO.none _)
   | (with_reducible refine LeO.ite ?_ ?_)
   | (with_reducible refine LeO.bind ?_ (fun _=>?_))
   | exact ih0 _ _ _ _ _ _ _ _ _ _ _ _ _
   | exact ih1 _ _ _ _ _ _ _ _ _ _
   | exact ih2 _ _ _ _
   | exact impl_CrashDisk.mono _ _ _ _ _
   | exact laws_eqDisk.mono _ _ _ _ _
   | exact laws_heldDisk.mono _ _ _ _
   | exact laws_markDisk.mono _ _ _ _
   | exact laws_szDisk.mono _ _ _ _
   | exact laws_toDisk.mono _ _ _
   | exact spec_CrashDisk.mono _ _ _ _ _
   | exact LeO.none _
   | refine LeO.ite ?_ ?_
   | refine LeO.bind ?_ (fun _=>?_)
theorem laws_FnExactCrashDisk.mono:∀ a0 a1 a2 a3 k,LeO (laws_FnExactCrashDisk.f k a0 a1 a2 a3) (laws_FnExactCrashDisk.f (k + 1) a0 a1 a2 a3):=by
 intro a0 a1 a2 a3 k
 obtain ⟨ih0,ih1,ih2⟩:=laws_FnExactCrashDisk.mono_l k
 unfold laws_FnExactCrashDisk.f
 repeat' first
   | (with_reducible exact ih0 _ _ _ _ _ _ _ _ _ _ _ _ _)
   | (with_reducible exact ih1 _ _ _ _ _ _ _ _ _ _)
   | (with_reducible exact ih2 _ _ _ _)
   | (with_reducible exact impl_CrashDisk.mono _ _ _ _ _)
   | (with_reducible exact laws_eqDisk.mono _ _ _ _ _)
   | (with_reducible exact laws_heldDisk.mono _ _ _ _)
   | (with_reducible exact laws_markDisk.mono _ _ _ _)
   | (with_reducible exact laws_szDisk.mono _ _ _ _)
   | (with_reducible exact laws_toDisk.mono _ _ _)
   | (with_reducible exact spec_CrashDisk.mono _ _ _ _ _)
   | (with_reducible exact LeO.refl _)
   | (with_reducible exact LeO.none _)
   | (with_reducible refine LeO.ite ?_ ?_)
   | (with_reducible refine LeO.bind ?_ (fun _=>?_))
   | exact ih0 _ _ _ _ _ _ _ _ _ _ _ _ _
   | exact ih1 _ _ _ _ _ _ _ _ _ _
   | exact ih2 _ _ _ _
   | exact impl_CrashDisk.mono _ _ _ _ _
   | exact laws_eqDisk.mono _ _ _ _ _
   | exact laws_heldDisk.mono _ _ _ _
   | exact laws_markDisk.mono _ _ _ _
   | exact laws_szDisk.mono _ _ _ _
   | exact laws_toDisk.mono _ _ _
   | exact spec_CrashDisk.mono _ _ _ _ _
   | exact LeO.none _
   | refine LeO.ite ?_ ?_
   | refine LeO.bind ?_ (fun _=>?_)
set_option maxHeartbeats 8000000 in
set_option maxRecDepth 100000 in
theorem laws_FnExactCrashDisk.calls (k:Nat) (A0_0:Option Addr) (c0_0:Nat) (l0_0:List ByteArray) (A0_1:Option Addr) (c0_1:Nat) (l0_1:List ByteArray) (a1:Int) (a2:Int) (r:Bool) (w:World) (hr0_0:Kd.C Kd.string w A0_0 l0_0.length l0_0) (hc0_0:l0_0.length ≤ c0_0) (hr0_1:Kd.C Kd.string w A0_1 l0_1.length l0_1) (hc0_1:l0_1.length ≤ c0_1) (h:laws_FnExactCrashDisk.f k l0_0 l0_1 a1 a2 = some r) :
  Calls Try.prog 8 #[.agg #[.slice A0_0 l0_0.length c0_0,.slice A0_1 l0_1.length c0_1],.int .i64 a1,.int .i64 a2] w fun e w'=>e = .returned (.bool r) ∧ Below w.heap.size w w':=by
 have hu30:=Try.underlying30
 have hu34:=Try.underlying34
 have HR0_0:=Aside0.mk hr0_0
 have HC0_0:=Aside0.mk hc0_0
 clear hr0_0 hc0_0
 have HR0_1:=Aside0.mk hr0_1
 have HC0_1:=Aside0.mk hc0_1
 clear hr0_1 hc0_1
 have HB:=Aside0.mk (Below.refl w.heap.size w)
 have H:((laws_szDisk.f k l0_0 l0_1 1048576).bind fun t219=>(if t219 < 0 then (some true) else ((laws_toDisk.f k l0_0 l0_1).bind fun bt220=>((spec_CrashDisk.f k bt220.1 bt220.2 a1 a2).bind fun bt226=>((laws_toDisk.f k l0_0 l0_1).bind fun bt234=>((impl_CrashDisk.f k bt234.1 bt234.2 a1 a2).bind fun bt241=>((laws_eqDisk.f k bt241.1 bt241.2.1 bt226.1 bt226.2.1).bind fun t249=>(if t249 = true then (laws_FnExactCrashDisk.j0 k a1 a2 bt226.2.2 bt241.2.2 (bt241.2.2 != bt226.2.2) l0_0 l0_1 bt226.1 bt226.2.1 bt234.1 bt234.2 bt241.1 bt241.2.1) else (laws_FnExactCrashDisk.j0 k a1 a2 bt226.2.2 bt241.2.2 true l0_0 l0_1 bt226.1 bt226.2.1 bt234.1 bt234.2 bt241.1 bt241.2.1))))))))) = some r:=h
 clear h
 replace H:=Option.bind_eq_some_iff.mp H
 obtain ⟨t219,A40,H⟩:=H
 replace H:(if t219 < 0 then (some true) else ((laws_toDisk.f k l0_0 l0_1).bind fun bt220=>((spec_CrashDisk.f k bt220.1 bt220.2 a1 a2).bind fun bt226=>((laws_toDisk.f k l0_0 l0_1).bind fun bt234=>((impl_CrashDisk.f k bt234.1 bt234.2 a1 a2).bind fun bt241=>((laws_eqDisk.f k bt241.1 bt241.2.1 bt226.1 bt226.2.1).bind fun t249=>(if t249 = true then (laws_FnExactCrashDisk.j0 k a1 a2 bt226.2.2 bt241.2.2 (bt241.2.2 != bt226.2.2) l0_0 l0_1 bt226.1 bt226.2.1 bt234.1 bt234.2 bt241.1 bt241.2.1) else (laws_FnExactCrashDisk.j0 k a1 a2 bt226.2.2 bt241.2.2 true l0_0 l0_1 bt226.1 bt226.2.1 bt234.1 bt234.2 bt241.1 bt241.2.1)))))))) = some r:=H
 have A4:=Aside0.mk A40
 clear A40
 by_cases c5:t219 < 0
 ·rw [if_pos c5] at H
  have c5b0:decide (t219 < 0) = true:=decide_eq_true c5
  clear c5
  obtain rfl:=Option.some.inj H
  go_enter Try.func8,Try.ntmps8
  go_wp2_with (first|((with_reducible refine gate_dst (N:=3) rfl ?_);refine box_event ?hg (N:=3) ?hd (cs:=#[.slice A0_0 l0_0.length c0_0,.slice A0_1 l0_1.length c0_1]) (t:=30) ?hr ?_;(case hd=>rfl);(case hg=>rfl);(case hr=>first|(go_simp;done)|(go_simp;rfl));intro gb218 hg w6 hbox hb;have n0_:=Aside0.mk (below_step (by repeat (first|(with_reducible first|exact HB.out|apply below_alloc)|exact HB.out)) hb);have n1_:=Aside0.mk (hbox);have n2_:=Aside0.mk ((by rw [hg];exact (below_size (by repeat (first|(with_reducible first|exact HB.out|apply below_alloc)|exact HB.out))):w.heap.size ≤ gb218));have n3_:=Aside0.mk ((by rw [hg];exact (below_size (by repeat (first|(with_reducible first|exact HB.out|apply below_alloc)|exact HB.out))):w.heap.size ≤ gb218));clear HB;have HB:=n0_;have BK218:=n1_;have GW218:=n2_;have GE218:=n3_;clear n0_ n1_ n2_ n3_;clear hb hbox hg;have hcz7_0:w6.cell? ⟨gb218,0,none⟩ = some (.slice A0_0 l0_0.length c0_0):=(blk_cell BK218.out 0).trans rfl;have hcz7_1:w6.cell? ⟨gb218,1,none⟩ = some (.slice A0_1 l0_1.length c0_1):=(blk_cell BK218.out 1).trans rfl;have hfz7_0:=blk_frozen BK218.out 0;have hfz7_1:=blk_frozen BK218.out 1)|((with_reducible refine gate_callee (f:=13) rfl ?_);refine goesL_ (some 20) rfl rfl Try.func13 (by kernel_rfl) rfl #[.agg #[.slice A0_0 l0_0.length c0_0,.slice A0_1 l0_1.length c0_1],.int .i64 1048576] rfl (by (try simp only [List.map_toArray,List.map_cons,List.map_nil]);first|done|rfl|(simp only [List.length_drop,List.length_take];rfl)) ?_;(with_reducible refine (laws_szDisk.calls k _ _ l0_0 _ _ l0_1 1048576 t219 _ ?side1 ?side2 ?side3 ?side4 A4.out).mono ?_);(case side1=>repeat (first|exact (Kd.C_below HR0_0.out HB.out)|(with_reducible refine Kd.C_alloc ?_ _)));(case side2=>exact HC0_0.out);(case side3=>repeat (first|exact (Kd.C_below HR0_1.out HB.out)|(with_reducible refine Kd.C_alloc ?_ _)));(case side4=>exact HC0_1.out);rintro e w8 ⟨rfl,hb⟩;refine ⟨_,rfl,?_⟩;have n0_:=Aside0.mk (blk_below (g:=gb218) (o:=.cells #[.slice A0_0 l0_0.length c0_0,.slice A0_1 l0_1.length c0_1] 30 (0,0)) (by (with_reducible repeat (refine blk_alloc ?_ _));exact BK218.out) hb);have n1_:=Aside0.mk (below_step (by repeat (first|(with_reducible first|exact HB.out|apply below_alloc|refine below_set ?_ GE218.out)|exact HB.out)) hb);clear BK218;clear HB;have BK218:=n0_;have HB:=n1_;clear n0_ n1_;(try clear hb);(try clear hb2);(try clear hk);(try clear hi)))
  go_ret
  exact ⟨by first|rfl|(simp [errW_none,errW_some] <;> rfl)|(simp [*,errW_none,errW_some] <;> rfl),by repeat (first|(with_reducible first|exact HB.out|apply below_alloc|refine below_set ?_ GE218.out)|exact HB.out)⟩
 ·rw [if_neg c5] at H
  have c5b0:decide (t219 < 0) = false:=decide_eq_false c5
  clear c5
  replace H:=Option.bind_eq_some_iff.mp H
  obtain ⟨⟨t220,t223⟩,A90,H⟩:=H
  replace H:((spec_CrashDisk.f k t220 t223 a1 a2).bind fun bt226=>((laws_toDisk.f k l0_0 l0_1).bind fun bt234=>((impl_CrashDisk.f k bt234.1 bt234.2 a1 a2).bind fun bt241=>((laws_eqDisk.f k bt241.1 bt241.2.1 bt226.1 bt226.2.1).bind fun t249=>(if t249 = true then (laws_FnExactCrashDisk.j0 k a1 a2 bt226.2.2 bt241.2.2 (bt241.2.2 != bt226.2.2) l0_0 l0_1 bt226.1 bt226.2.1 bt234.1 bt234.2 bt241.1 bt241.2.1) else (laws_FnExactCrashDisk.j0 k a1 a2 bt226.2.2 bt241.2.2 true l0_0 l0_1 bt226.1 bt226.2.1 bt234.1 bt234.2 bt241.1 bt241.2.1)))))) = some r:=H
  have A9:=Aside0.mk A90
  clear A90
  replace H:=Option.bind_eq_some_iff.mp H
  obtain ⟨⟨t226,t229,t232⟩,A100,H⟩:=H
  replace H:((laws_toDisk.f k l0_0 l0_1).bind fun bt234=>((impl_CrashDisk.f k bt234.1 bt234.2 a1 a2).bind fun bt241=>((laws_eqDisk.f k bt241.1 bt241.2.1 t226 t229).bind fun t249=>(if t249 = true then (laws_FnExactCrashDisk.j0 k a1 a2 t232 bt241.2.2 (bt241.2.2 != t232) l0_0 l0_1 t226 t229 bt234.1 bt234.2 bt241.1 bt241.2.1) else (laws_FnExactCrashDisk.j0 k a1 a2 t232 bt241.2.2 true l0_0 l0_1 t226 t229 bt234.1 bt234.2 bt241.1 bt241.2.1))))) = some r:=H
  have A10:=Aside0.mk A100
  clear A100
  replace H:=Option.bind_eq_some_iff.mp H
  obtain ⟨⟨t234,t237⟩,A110,H⟩:=H
  replace H:((impl_CrashDisk.f k t234 t237 a1 a2).bind fun bt241=>((laws_eqDisk.f k bt241.1 bt241.2.1 t226 t229).bind fun t249=>(if t249 = true then (laws_FnExactCrashDisk.j0 k a1 a2 t232 bt241.2.2 (bt241.2.2 != t232) l0_0 l0_1 t226 t229 t234 t237 bt241.1 bt241.2.1) else (laws_FnExactCrashDisk.j0 k a1 a2 t232 bt241.2.2 true l0_0 l0_1 t226 t229 t234 t237 bt241.1 bt241.2.1)))) = some r:=H
  have A11:=Aside0.mk A110
  clear A110
  replace H:=Option.bind_eq_some_iff.mp H
  obtain ⟨⟨t241,t244,t247⟩,A120,H⟩:=H
  replace H:((laws_eqDisk.f k t241 t244 t226 t229).bind fun t249=>(if t249 = true then (laws_FnExactCrashDisk.j0 k a1 a2 t232 t247 (t247 != t232) l0_0 l0_1 t226 t229 t234 t237 t241 t244) else (laws_FnExactCrashDisk.j0 k a1 a2 t232 t247 true l0_0 l0_1 t226 t229 t234 t237 t241 t244))) = some r:=H
  have A12:=Aside0.mk A120
  clear A120
  have HC13:=Aside0.mk H
  clear H
  go_enter Try.func8,Try.ntmps8
  go_upto_region 8 with (first|((with_reducible refine gate_dst (N:=3) rfl ?_);refine box_event ?hg (N:=3) ?hd (cs:=#[.slice A0_0 l0_0.length c0_0,.slice A0_1 l0_1.length c0_1]) (t:=30) ?hr ?_;(case hd=>rfl);(case hg=>rfl);(case hr=>first|(go_simp;done)|(go_simp;rfl));intro gb218 hg w14 hbox hb;have n0_:=Aside0.mk (below_step (by repeat (first|(with_reducible first|exact HB.out|apply below_alloc)|exact HB.out)) hb);have n1_:=Aside0.mk (hbox);have n2_:=Aside0.mk ((by rw [hg];exact (below_size (by repeat (first|(with_reducible first|exact HB.out|apply below_alloc)|exact HB.out))):w.heap.size ≤ gb218));have n3_:=Aside0.mk ((by rw [hg];exact (below_size (by repeat (first|(with_reducible first|exact HB.out|apply below_alloc)|exact HB.out))):w.heap.size ≤ gb218));clear HB;have HB:=n0_;have BK218:=n1_;have GW218:=n2_;have GE218:=n3_;clear n0_ n1_ n2_ n3_;clear hb hbox hg;have hcz15_0:w14.cell? ⟨gb218,0,none⟩ = some (.slice A0_0 l0_0.length c0_0):=(blk_cell BK218.out 0).trans rfl;have hcz15_1:w14.cell? ⟨gb218,1,none⟩ = some (.slice A0_1 l0_1.length c0_1):=(blk_cell BK218.out 1).trans rfl;have hfz15_0:=blk_frozen BK218.out 0;have hfz15_1:=blk_frozen BK218.out 1)|((with_reducible refine gate_callee (f:=13) rfl ?_);refine goesL_ (some 20) rfl rfl Try.func13 (by kernel_rfl) rfl #[.agg #[.slice A0_0 l0_0.length c0_0,.slice A0_1 l0_1.length c0_1],.int .i64 1048576] rfl (by (try simp only [List.map_toArray,List.map_cons,List.map_nil]);first|done|rfl|(simp only [List.length_drop,List.length_take];rfl)) ?_;(with_reducible refine (laws_szDisk.calls k _ _ l0_0 _ _ l0_1 1048576 t219 _ ?side1 ?side2 ?side3 ?side4 A4.out).mono ?_);(case side1=>repeat (first|exact (Kd.C_below HR0_0.out HB.out)|(with_reducible refine Kd.C_alloc ?_ _)));(case side2=>exact HC0_0.out);(case side3=>repeat (first|exact (Kd.C_below HR0_1.out HB.out)|(with_reducible refine Kd.C_alloc ?_ _)));(case side4=>exact HC0_1.out);rintro e w16 ⟨rfl,hb⟩;refine ⟨_,rfl,?_⟩;have n0_:=Aside0.mk (blk_below (g:=gb218) (o:=.cells #[.slice A0_0 l0_0.length c0_0,.slice A0_1 l0_1.length c0_1] 30 (0,0)) (by (with_reducible repeat (refine blk_alloc ?_ _));exact BK218.out) hb);have n1_:=Aside0.mk (below_step (by repeat (first|(with_reducible first|exact HB.out|apply below_alloc|refine below_set ?_ GE218.out)|exact HB.out)) hb);clear BK218;clear HB;have BK218:=n0_;have HB:=n1_;clear n0_ n1_;(try clear hb);(try clear hb2);(try clear hk);(try clear hi);have hcz17_0:w16.cell? ⟨gb218,0,none⟩ = some (.slice A0_0 l0_0.length c0_0):=(blk_cell BK218.out 0).trans rfl;have hcz17_1:w16.cell? ⟨gb218,1,none⟩ = some (.slice A0_1 l0_1.length c0_1):=(blk_cell BK218.out 1).trans rfl;have hfz17_0:=blk_frozen BK218.out 0;have hfz17_1:=blk_frozen BK218.out 1)|((with_reducible refine gate_callee (f:=15) rfl ?_);refine goesL_ (some 25) rfl rfl Try.func15 (by kernel_rfl) rfl #[.agg #[.slice A0_0 l0_0.length c0_0,.slice A0_1 l0_1.length c0_1]] rfl (by (try simp only [List.map_toArray,List.map_cons,List.map_nil]);first|done|rfl|(simp only [List.length_drop,List.length_take];rfl)) ?_;(with_reducible refine (laws_toDisk.calls k _ _ l0_0 _ _ l0_1 t220 t223 _ ?side1 ?side2 ?side3 ?side4 A9.out).mono ?_);(case side1=>repeat (first|exact (Kd.C_below HR0_0.out HB.out)|(with_reducible refine Kd.C_alloc ?_ _)));(case side2=>exact HC0_0.out);(case side3=>repeat (first|exact (Kd.C_below HR0_1.out HB.out)|(with_reducible refine Kd.C_alloc ?_ _)));(case side4=>exact HC0_1.out);rintro e w18 ⟨v221,v224,rfl,ho0,ho1,hb⟩;refine ⟨_,rfl,?_⟩;have n0_:=Aside0.mk (Kd.R_lower ho0 (below_size (by repeat (first|(with_reducible first|exact HB.out|apply below_alloc|refine below_set ?_ GE218.out)|exact HB.out))));have n1_:=Aside0.mk (Kd.R_lower ho1 (below_size (by repeat (first|(with_reducible first|exact HB.out|apply below_alloc|refine below_set ?_ GE218.out)|exact HB.out))));have n2_:=Aside0.mk (blk_below (g:=gb218) (o:=.cells #[.slice A0_0 l0_0.length c0_0,.slice A0_1 l0_1.length c0_1] 30 (0,0)) (by (with_reducible repeat (refine blk_alloc ?_ _));exact BK218.out) hb);have n3_:=Aside0.mk (below_step (by repeat (first|(with_reducible first|exact HB.out|apply below_alloc|refine below_set ?_ GE218.out)|exact HB.out)) hb);clear BK218;clear HB;have HO222:=n0_;have HO225:=n1_;have BK218:=n2_;have HB:=n3_;clear n0_ n1_ n2_ n3_;(try clear hb);(try clear hb2);(try clear hk);(try clear hi);(try clear ho0);(try clear ho1);obtain ⟨Ao19,co19,eo19⟩:=Kd.R_slice HO222.out;subst eo19;obtain ⟨Ao20,co20,eo20⟩:=Kd.R_slice HO225.out;subst eo20)|((with_reducible refine gate_callee (f:=27) rfl ?_);refine goesL_ (some 28) rfl rfl Try.func27 (by kernel_rfl) rfl #[.agg #[.slice Ao19 t220.length co19,.slice Ao20 t223.length co20],.int .i64 a1,.int .i64 a2] rfl (by (try simp only [List.map_toArray,List.map_cons,List.map_nil]);first|done|rfl|(simp only [List.length_drop,List.length_take];rfl)) ?_;(with_reducible refine (spec_CrashDisk.calls k _ _ t220 _ _ t223 a1 a2 t226 t229 t232 _ ?side1 ?side2 ?side3 ?side4 A10.out).mono ?_);(case side1=>repeat (first|exact (Kd.R_reads' HO222.out).2.2|(with_reducible refine Kd.C_alloc ?_ _)));(case side2=>exact (Kd.R_reads' HO222.out).2.1);(case side3=>repeat (first|exact (Kd.R_reads' HO225.out).2.2|(with_reducible refine Kd.C_alloc ?_ _)));(case side4=>exact (Kd.R_reads' HO225.out).2.1);rintro e w21 ⟨v227,v230,rfl,ho0,ho1,hb⟩;refine ⟨_,rfl,?_⟩;have n0_:=Aside0.mk (Kd.R_mono (Kd.R_told (Kd.R_told (Kd.R_old (by (with_reducible repeat (first|apply Kd.R_alloc));exact HO222.out) hb) (Kd.R_base ho0)) (Kd.R_base ho1)) (fun _ h_=>h_.1));have n1_:=Aside0.mk (Kd.R_mono (Kd.R_told (Kd.R_told (Kd.R_old (by (with_reducible repeat (first|apply Kd.R_alloc));exact HO225.out) hb) (Kd.R_base ho0)) (Kd.R_base ho1)) (fun _ h_=>h_.1));have n2_:=Aside0.mk (Kd.R_lower (Kd.R_new' (Kd.R_new' ho0 (Kd.R_lt (by (with_reducible repeat (first|apply Kd.R_alloc));exact HO222.out))) (Kd.R_lt (by (with_reducible repeat (first|apply Kd.R_alloc));exact HO225.out))) (below_size (by repeat (first|(with_reducible first|exact HB.out|apply below_alloc|refine below_set ?_ GE218.out)|exact HB.out))));have n3_:=Aside0.mk (Kd.R_lower (Kd.R_new' (Kd.R_new' ho1 (Kd.R_lt (by (with_reducible repeat (first|apply Kd.R_alloc));exact HO222.out))) (Kd.R_lt (by (with_reducible repeat (first|apply Kd.R_alloc));exact HO225.out))) (below_size (by repeat (first|(with_reducible first|exact HB.out|apply below_alloc|refine below_set ?_ GE218.out)|exact HB.out))));have n4_:=Aside0.mk (blk_below (g:=gb218) (o:=.cells #[.slice A0_0 l0_0.length c0_0,.slice A0_1 l0_1.length c0_1] 30 (0,0)) (by (with_reducible repeat (refine blk_alloc ?_ _));exact BK218.out) hb);have n5_:=Aside0.mk (below_step (by repeat (first|(with_reducible first|exact HB.out|apply below_alloc|refine below_set ?_ GE218.out)|exact HB.out)) hb);clear HO222;clear HO225;clear BK218;clear HB;have HO222:=n0_;have HO225:=n1_;have HO228:=n2_;have HO231:=n3_;have BK218:=n4_;have HB:=n5_;clear n0_ n1_ n2_ n3_ n4_ n5_;(try clear hb);(try clear hb2);(try clear hk);(try clear hi);(try clear ho0);(try clear ho1))|((with_reducible refine gate_dst (N:=8) rfl ?_);refine box_event ?hg (N:=8) ?hd (cs:=#[.slice none 0 0,.slice none 0 0]) (t:=34) ?hr ?_;(case hd=>rfl);(case hg=>rfl);(case hr=>first|(go_simp;done)|(go_simp;rfl));intro gb233 hg w22 hbox hb;have n0_:=Aside0.mk (Kd.R_below (by (with_reducible repeat (first|apply Kd.R_alloc));exact HO222.out) hb);have n1_:=Aside0.mk (Kd.R_below (by (with_reducible repeat (first|apply Kd.R_alloc));exact HO225.out) hb);have n2_:=Aside0.mk (Kd.R_below (by (with_reducible repeat (first|apply Kd.R_alloc));exact HO228.out) hb);have n3_:=Aside0.mk (Kd.R_below (by (with_reducible repeat (first|apply Kd.R_alloc));exact HO231.out) hb);have n4_:=Aside0.mk (blk_below (g:=gb218) (o:=.cells #[.slice A0_0 l0_0.length c0_0,.slice A0_1 l0_1.length c0_1] 30 (0,0)) (by (with_reducible repeat (refine blk_alloc ?_ _));exact BK218.out) hb);have n5_:=Aside0.mk (below_step (by repeat (first|(with_reducible first|exact HB.out|apply below_alloc|refine below_set ?_ GE218.out)|exact HB.out)) hb);have n6_:=Aside0.mk (hbox);have n7_:=Aside0.mk ((by rw [hg];exact (below_size (by repeat (first|(with_reducible first|exact HB.out|apply below_alloc|refine below_set ?_ GE218.out)|exact HB.out))):w.heap.size ≤ gb233));have n8_:=Aside0.mk ((by rw [hg];exact (below_size (by repeat (first|(with_reducible first|exact HB.out|apply below_alloc|refine below_set ?_ GE218.out)|exact HB.out))):w.heap.size ≤ gb233));have n9_:=Aside0.mk ((by rw [hg];exact Nat.ne_of_lt (blk_lt (g:=gb218) (o:=.cells #[.slice A0_0 l0_0.length c0_0,.slice A0_1 l0_1.length c0_1] 30 (0,0)) (by (with_reducible repeat (refine blk_alloc ?_ _));exact BK218.out)):gb218 ≠ gb233));have n10_:=Aside0.mk ((by rw [hg];exact Nat.ne_of_gt (blk_lt (g:=gb218) (o:=.cells #[.slice A0_0 l0_0.length c0_0,.slice A0_1 l0_1.length c0_1] 30 (0,0)) (by (with_reducible repeat (refine blk_alloc ?_ _));exact BK218.out)):gb233 ≠ gb218));clear HO222;clear HO225;clear HO228;clear HO231;clear BK218;clear HB;have HO222:=n0_;have HO225:=n1_;have HO228:=n2_;have HO231:=n3_;have BK218:=n4_;have HB:=n5_;have BK233:=n6_;have GW233:=n7_;have GE233:=n8_;have NB218_233:=n9_;have NB233_218:=n10_;clear n0_ n1_ n2_ n3_ n4_ n5_ n6_ n7_ n8_ n9_ n10_;clear hb hbox hg;obtain ⟨Ao23,co23,eo23⟩:=Kd.R_slice HO228.out;subst eo23;have hnb24:=NB233_218.out;have hnc24:=NB218_233.out;have hcz25_0:w22.cell? ⟨gb233,0,none⟩ = some (.slice none 0 0):=(blk_cell BK233.out 0).trans rfl;have hcz25_1:w22.cell? ⟨gb233,1,none⟩ = some (.slice none 0 0):=(blk_cell BK233.out 1).trans rfl;have hfz25_0:=blk_frozen BK233.out 0;have hfz25_1:=blk_frozen BK233.out 1;obtain ⟨Ao26,co26,eo26⟩:=Kd.R_slice HO231.out;subst eo26;have hcz27_0:w22.cell? ⟨gb218,0,none⟩ = some (.slice A0_0 l0_0.length c0_0):=(blk_cell BK218.out 0).trans rfl;have hcz27_1:w22.cell? ⟨gb218,1,none⟩ = some (.slice A0_1 l0_1.length c0_1):=(blk_cell BK218.out 1).trans rfl;have hfz27_0:=blk_frozen BK218.out 0;have hfz27_1:=blk_frozen BK218.out 1)|((with_reducible refine gate_callee (f:=15) rfl ?_);refine goesL_ (some 32) rfl rfl Try.func15 (by kernel_rfl) rfl #[.agg #[.slice A0_0 l0_0.length c0_0,.slice A0_1 l0_1.length c0_1]] rfl (by (try simp only [List.map_toArray,List.map_cons,List.map_nil]);first|done|rfl|(simp only [List.length_drop,List.length_take];rfl)) ?_;(with_reducible refine (laws_toDisk.calls k _ _ l0_0 _ _ l0_1 t234 t237 _ ?side1 ?side2 ?side3 ?side4 A11.out).mono ?_);(case side1=>exact Kd.C_below HR0_0.out (by repeat (first|(with_reducible first|exact HB.out|apply below_alloc|refine below_set ?_ GE218.out|refine below_set ?_ GE233.out)|exact HB.out)));(case side2=>exact HC0_0.out);(case side3=>exact Kd.C_below HR0_1.out (by repeat (first|(with_reducible first|exact HB.out|apply below_alloc|refine below_set ?_ GE218.out|refine below_set ?_ GE233.out)|exact HB.out)));(case side4=>exact HC0_1.out);rintro e w28 ⟨v235,v238,rfl,ho0,ho1,hb⟩;refine ⟨_,rfl,?_⟩;have n0_:=Aside0.mk (Kd.R_mono (Kd.R_told (Kd.R_told (Kd.R_old (by (with_reducible repeat (first|apply Kd.R_alloc));exact (Kd.R_mono (Kd.R_far (p:=⟨gb233,1,none⟩) (Kd.R_far (p:=⟨gb233,0,none⟩) (Kd.R_types HO222.out BK233.out (by decide)) (fun _ hk=>hk.2) (.slice Ao23 t226.length co23)) (fun _ hk=>hk.2) (.slice Ao26 t229.length co26)) (fun _ h_=>h_.1))) hb) (Kd.R_base ho0)) (Kd.R_base ho1)) (fun _ h_=>h_.1));have n1_:=Aside0.mk (Kd.R_mono (Kd.R_told (Kd.R_told (Kd.R_old (by (with_reducible repeat (first|apply Kd.R_alloc));exact (Kd.R_mono (Kd.R_far (p:=⟨gb233,1,none⟩) (Kd.R_far (p:=⟨gb233,0,none⟩) (Kd.R_types HO225.out BK233.out (by decide)) (fun _ hk=>hk.2) (.slice Ao23 t226.length co23)) (fun _ hk=>hk.2) (.slice Ao26 t229.length co26)) (fun _ h_=>h_.1))) hb) (Kd.R_base ho0)) (Kd.R_base ho1)) (fun _ h_=>h_.1));have n2_:=Aside0.mk (Kd.R_mono (Kd.R_told (Kd.R_told (Kd.R_old (by (with_reducible repeat (first|apply Kd.R_alloc));exact (Kd.R_mono (Kd.R_far (p:=⟨gb233,1,none⟩) (Kd.R_far (p:=⟨gb233,0,none⟩) (Kd.R_types HO228.out BK233.out (by decide)) (fun _ hk=>hk.2) (.slice Ao23 t226.length co23)) (fun _ hk=>hk.2) (.slice Ao26 t229.length co26)) (fun _ h_=>h_.1))) hb) (Kd.R_base ho0)) (Kd.R_base ho1)) (fun _ h_=>h_.1));have n3_:=Aside0.mk (Kd.R_mono (Kd.R_told (Kd.R_told (Kd.R_old (by (with_reducible repeat (first|apply Kd.R_alloc));exact (Kd.R_mono (Kd.R_far (p:=⟨gb233,1,none⟩) (Kd.R_far (p:=⟨gb233,0,none⟩) (Kd.R_types HO231.out BK233.out (by decide)) (fun _ hk=>hk.2) (.slice Ao23 t226.length co23)) (fun _ hk=>hk.2) (.slice Ao26 t229.length co26)) (fun _ h_=>h_.1))) hb) (Kd.R_base ho0)) (Kd.R_base ho1)) (fun _ h_=>h_.1));have n4_:=Aside0.mk (Kd.R_lower (Kd.R_new' (Kd.R_new' (Kd.R_new' (Kd.R_new' ho0 (Kd.R_lt (by (with_reducible repeat (first|apply Kd.R_alloc));exact (Kd.R_mono (Kd.R_far (p:=⟨gb233,1,none⟩) (Kd.R_far (p:=⟨gb233,0,none⟩) (Kd.R_types HO222.out BK233.out (by decide)) (fun _ hk=>hk.2) (.slice Ao23 t226.length co23)) (fun _ hk=>hk.2) (.slice Ao26 t229.length co26)) (fun _ h_=>h_.1))))) (Kd.R_lt (by (with_reducible repeat (first|apply Kd.R_alloc));exact (Kd.R_mono (Kd.R_far (p:=⟨gb233,1,none⟩) (Kd.R_far (p:=⟨gb233,0,none⟩) (Kd.R_types HO225.out BK233.out (by decide)) (fun _ hk=>hk.2) (.slice Ao23 t226.length co23)) (fun _ hk=>hk.2) (.slice Ao26 t229.length co26)) (fun _ h_=>h_.1))))) (Kd.R_lt (by (with_reducible repeat (first|apply Kd.R_alloc));exact (Kd.R_mono (Kd.R_far (p:=⟨gb233,1,none⟩) (Kd.R_far (p:=⟨gb233,0,none⟩) (Kd.R_types HO228.out BK233.out (by decide)) (fun _ hk=>hk.2) (.slice Ao23 t226.length co23)) (fun _ hk=>hk.2) (.slice Ao26 t229.length co26)) (fun _ h_=>h_.1))))) (Kd.R_lt (by (with_reducible repeat (first|apply Kd.R_alloc));exact (Kd.R_mono (Kd.R_far (p:=⟨gb233,1,none⟩) (Kd.R_far (p:=⟨gb233,0,none⟩) (Kd.R_types HO231.out BK233.out (by decide)) (fun _ hk=>hk.2) (.slice Ao23 t226.length co23)) (fun _ hk=>hk.2) (.slice Ao26 t229.length co26)) (fun _ h_=>h_.1))))) (below_size (by repeat (first|(with_reducible first|exact HB.out|apply below_alloc|refine below_set ?_ GE218.out|refine below_set ?_ GE233.out)|exact HB.out))));have n5_:=Aside0.mk (Kd.R_lower (Kd.R_new' (Kd.R_new' (Kd.R_new' (Kd.R_new' ho1 (Kd.R_lt (by (with_reducible repeat (first|apply Kd.R_alloc));exact (Kd.R_mono (Kd.R_far (p:=⟨gb233,1,none⟩) (Kd.R_far (p:=⟨gb233,0,none⟩) (Kd.R_types HO222.out BK233.out (by decide)) (fun _ hk=>hk.2) (.slice Ao23 t226.length co23)) (fun _ hk=>hk.2) (.slice Ao26 t229.length co26)) (fun _ h_=>h_.1))))) (Kd.R_lt (by (with_reducible repeat (first|apply Kd.R_alloc));exact (Kd.R_mono (Kd.R_far (p:=⟨gb233,1,none⟩) (Kd.R_far (p:=⟨gb233,0,none⟩) (Kd.R_types HO225.out BK233.out (by decide)) (fun _ hk=>hk.2) (.slice Ao23 t226.length co23)) (fun _ hk=>hk.2) (.slice Ao26 t229.length co26)) (fun _ h_=>h_.1))))) (Kd.R_lt (by (with_reducible repeat (first|apply Kd.R_alloc));exact (Kd.R_mono (Kd.R_far (p:=⟨gb233,1,none⟩) (Kd.R_far (p:=⟨gb233,0,none⟩) (Kd.R_types HO228.out BK233.out (by decide)) (fun _ hk=>hk.2) (.slice Ao23 t226.length co23)) (fun _ hk=>hk.2) (.slice Ao26 t229.length co26)) (fun _ h_=>h_.1))))) (Kd.R_lt (by (with_reducible repeat (first|apply Kd.R_alloc));exact (Kd.R_mono (Kd.R_far (p:=⟨gb233,1,none⟩) (Kd.R_far (p:=⟨gb233,0,none⟩) (Kd.R_types HO231.out BK233.out (by decide)) (fun _ hk=>hk.2) (.slice Ao23 t226.length co23)) (fun _ hk=>hk.2) (.slice Ao26 t229.length co26)) (fun _ h_=>h_.1))))) (below_size (by repeat (first|(with_reducible first|exact HB.out|apply below_alloc|refine below_set ?_ GE218.out|refine below_set ?_ GE233.out)|exact HB.out))));have n6_:=Aside0.mk (blk_below (g:=gb218) (o:=.cells #[.slice A0_0 l0_0.length c0_0,.slice A0_1 l0_1.length c0_1] 30 (0,0)) (by (with_reducible repeat (refine blk_alloc ?_ _));refine blk_far ?_ NB218_233.out _;(with_reducible repeat (refine blk_alloc ?_ _));refine blk_far ?_ NB218_233.out _;(with_reducible repeat (refine blk_alloc ?_ _));exact BK218.out) hb);have n7_:=Aside0.mk (blk_below (g:=gb233) (o:=.cells #[.slice Ao23 t226.length co23,.slice Ao26 t229.length co26] 34 (0,0)) (by (with_reducible repeat (refine blk_alloc ?_ _));refine blk_put (cs:=#[.slice Ao23 t226.length co23,.slice none 0 0]) ?_ 1 _ rfl;(with_reducible repeat (refine blk_alloc ?_ _));refine blk_put (cs:=#[.slice none 0 0,.slice none 0 0]) ?_ 0 _ rfl;(with_reducible repeat (refine blk_alloc ?_ _));exact BK233.out) hb);have n8_:=Aside0.mk (below_step (by repeat (first|(with_reducible first|exact HB.out|apply below_alloc|refine below_set ?_ GE218.out|refine below_set ?_ GE233.out)|exact HB.out)) hb);clear HO222;clear HO225;clear HO228;clear HO231;clear BK218;clear BK233;clear HB;have HO222:=n0_;have HO225:=n1_;have HO228:=n2_;have HO231:=n3_;have HO236:=n4_;have HO239:=n5_;have BK218:=n6_;have BK233:=n7_;have HB:=n8_;clear n0_ n1_ n2_ n3_ n4_ n5_ n6_ n7_ n8_;(try clear hb);(try clear hb2);(try clear hk);(try clear hi);(try clear ho0);(try clear ho1))|((with_reducible refine gate_dst (N:=10) rfl ?_);refine box_event ?hg (N:=10) ?hd (cs:=#[.slice none 0 0,.slice none 0 0]) (t:=34) ?hr ?_;(case hd=>rfl);(case hg=>rfl);(case hr=>first|(go_simp;done)|(go_simp;rfl));intro gb240 hg w29 hbox hb;have n0_:=Aside0.mk (Kd.R_below (by (with_reducible repeat (first|apply Kd.R_alloc));exact HO222.out) hb);have n1_:=Aside0.mk (Kd.R_below (by (with_reducible repeat (first|apply Kd.R_alloc));exact HO225.out) hb);have n2_:=Aside0.mk (Kd.R_below (by (with_reducible repeat (first|apply Kd.R_alloc));exact HO228.out) hb);have n3_:=Aside0.mk (Kd.R_below (by (with_reducible repeat (first|apply Kd.R_alloc));exact HO231.out) hb);have n4_:=Aside0.mk (Kd.R_below (by (with_reducible repeat (first|apply Kd.R_alloc));exact HO236.out) hb);have n5_:=Aside0.mk (Kd.R_below (by (with_reducible repeat (first|apply Kd.R_alloc));exact HO239.out) hb);have n6_:=Aside0.mk (blk_below (g:=gb218) (o:=.cells #[.slice A0_0 l0_0.length c0_0,.slice A0_1 l0_1.length c0_1] 30 (0,0)) (by (with_reducible repeat (refine blk_alloc ?_ _));exact BK218.out) hb);have n7_:=Aside0.mk (blk_below (g:=gb233) (o:=.cells #[.slice Ao23 t226.length co23,.slice Ao26 t229.length co26] 34 (0,0)) (by (with_reducible repeat (refine blk_alloc ?_ _));exact BK233.out) hb);have n8_:=Aside0.mk (below_step (by repeat (first|(with_reducible first|exact HB.out|apply below_alloc|refine below_set ?_ GE218.out|refine below_set ?_ GE233.out)|exact HB.out)) hb);have n9_:=Aside0.mk (hbox);have n10_:=Aside0.mk ((by rw [hg];exact (below_size (by repeat (first|(with_reducible first|exact HB.out|apply below_alloc|refine below_set ?_ GE218.out|refine below_set ?_ GE233.out)|exact HB.out))):w.heap.size ≤ gb240));have n11_:=Aside0.mk ((by rw [hg];exact (below_size (by repeat (first|(with_reducible first|exact HB.out|apply below_alloc|refine below_set ?_ GE218.out|refine below_set ?_ GE233.out)|exact HB.out))):w.heap.size ≤ gb240));have n12_:=Aside0.mk ((by rw [hg];exact Nat.ne_of_lt (blk_lt (g:=gb218) (o:=.cells #[.slice A0_0 l0_0.length c0_0,.slice A0_1 l0_1.length c0_1] 30 (0,0)) (by (with_reducible repeat (refine blk_alloc ?_ _));exact BK218.out)):gb218 ≠ gb240));have n13_:=Aside0.mk ((by rw [hg];exact Nat.ne_of_gt (blk_lt (g:=gb218) (o:=.cells #[.slice A0_0 l0_0.length c0_0,.slice A0_1 l0_1.length c0_1] 30 (0,0)) (by (with_reducible repeat (refine blk_alloc ?_ _));exact BK218.out)):gb240 ≠ gb218));have n14_:=Aside0.mk ((by rw [hg];exact Nat.ne_of_lt (blk_lt (g:=gb233) (o:=.cells #[.slice Ao23 t226.length co23,.slice Ao26 t229.length co26] 34 (0,0)) (by (with_reducible repeat (refine blk_alloc ?_ _));exact BK233.out)):gb233 ≠ gb240));have n15_:=Aside0.mk ((by rw [hg];exact Nat.ne_of_gt (blk_lt (g:=gb233) (o:=.cells #[.slice Ao23 t226.length co23,.slice Ao26 t229.length co26] 34 (0,0)) (by (with_reducible repeat (refine blk_alloc ?_ _));exact BK233.out)):gb240 ≠ gb233));clear HO222;clear HO225;clear HO228;clear HO231;clear HO236;clear HO239;clear BK218;clear BK233;clear HB;have HO222:=n0_;have HO225:=n1_;have HO228:=n2_;have HO231:=n3_;have HO236:=n4_;have HO239:=n5_;have BK218:=n6_;have BK233:=n7_;have HB:=n8_;have BK240:=n9_;have GW240:=n10_;have GE240:=n11_;have NB218_240:=n12_;have NB240_218:=n13_;have NB233_240:=n14_;have NB240_233:=n15_;clear n0_ n1_ n2_ n3_ n4_ n5_ n6_ n7_ n8_ n9_ n10_ n11_ n12_ n13_ n14_ n15_;clear hb hbox hg;obtain ⟨Ao30,co30,eo30⟩:=Kd.R_slice HO236.out;subst eo30;have hnb31:=NB240_218.out;have hnc31:=NB218_240.out;have hnb32:=NB240_233.out;have hnc32:=NB233_240.out;have hcz33_0:w29.cell? ⟨gb240,0,none⟩ = some (.slice none 0 0):=(blk_cell BK240.out 0).trans rfl;have hcz33_1:w29.cell? ⟨gb240,1,none⟩ = some (.slice none 0 0):=(blk_cell BK240.out 1).trans rfl;have hfz33_0:=blk_frozen BK240.out 0;have hfz33_1:=blk_frozen BK240.out 1;obtain ⟨Ao34,co34,eo34⟩:=Kd.R_slice HO239.out;subst eo34)|((with_reducible refine gate_store (t:=34) (p:=10) rfl ?_);refine store_event (t:=34) (p:=10) (v:=?vo_w35) (w1:=((w29.setCell ⟨gb240,0,none⟩ (.slice Ao30 t234.length co30)).setCell ⟨gb240,1,none⟩ (.slice Ao34 t237.length co34))) ?hg ?ho ?hn ?hr ?_;(case ho=>rfl);(case hg=>rfl);(case hn=>rfl);(case hr=>first|(go_simp;done)|(go_simp;rfl));intro w35 hw;have n0_:Aside0 (Kd.R Kd.string 9 w35 w.heap.size (fun k_=>some k_ ≠ (.slice Ao20 t223.length co20:Value).ownBlock ∧ some k_ ≠ (.slice Ao23 t226.length co23:Value).ownBlock ∧ some k_ ≠ (.slice Ao26 t229.length co26:Value).ownBlock ∧ some k_ ≠ (.slice Ao30 t234.length co30:Value).ownBlock ∧ some k_ ≠ (.slice Ao34 t237.length co34:Value).ownBlock) (.slice Ao19 t220.length co19) t220):=⟨(by rw [hw];exact (by (with_reducible repeat (first|apply Kd.R_alloc));exact Kd.R_mono (Kd.R_far (p:=⟨gb240,1,none⟩) (Kd.R_far (p:=⟨gb240,0,none⟩) (Kd.R_types HO222.out BK240.out (by decide)) (fun _ hk=>hk.2) (.slice Ao30 t234.length co30)) (fun _ hk=>hk.2) (.slice Ao34 t237.length co34)) (fun _ hk=>⟨hk.1.1.1.1.1,⟨hk.1.1.1.1.2,⟨hk.1.1.1.2,⟨hk.1.1.2,hk.1.2⟩⟩⟩⟩)))⟩;have n1_:Aside0 (Kd.R Kd.string 9 w35 w.heap.size (fun k_=>some k_ ≠ (.slice Ao19 t220.length co19:Value).ownBlock ∧ some k_ ≠ (.slice Ao23 t226.length co23:Value).ownBlock ∧ some k_ ≠ (.slice Ao26 t229.length co26:Value).ownBlock ∧ some k_ ≠ (.slice Ao30 t234.length co30:Value).ownBlock ∧ some k_ ≠ (.slice Ao34 t237.length co34:Value).ownBlock) (.slice Ao20 t223.length co20) t223):=⟨(by rw [hw];exact (by (with_reducible repeat (first|apply Kd.R_alloc));exact Kd.R_mono (Kd.R_far (p:=⟨gb240,1,none⟩) (Kd.R_far (p:=⟨gb240,0,none⟩) (Kd.R_types HO225.out BK240.out (by decide)) (fun _ hk=>hk.2) (.slice Ao30 t234.length co30)) (fun _ hk=>hk.2) (.slice Ao34 t237.length co34)) (fun _ hk=>⟨hk.1.1.1.1.1,⟨hk.1.1.1.1.2,⟨hk.1.1.1.2,⟨hk.1.1.2,hk.1.2⟩⟩⟩⟩)))⟩;have n2_:Aside0 (Kd.R Kd.string 9 w35 w.heap.size (fun k_=>some k_ ≠ (.slice Ao19 t220.length co19:Value).ownBlock ∧ some k_ ≠ (.slice Ao20 t223.length co20:Value).ownBlock ∧ some k_ ≠ (.slice Ao26 t229.length co26:Value).ownBlock ∧ some k_ ≠ (.slice Ao30 t234.length co30:Value).ownBlock ∧ some k_ ≠ (.slice Ao34 t237.length co34:Value).ownBlock) (.slice Ao23 t226.length co23) t226):=⟨(by rw [hw];exact (by (with_reducible repeat (first|apply Kd.R_alloc));exact Kd.R_mono (Kd.R_far (p:=⟨gb240,1,none⟩) (Kd.R_far (p:=⟨gb240,0,none⟩) (Kd.R_types HO228.out BK240.out (by decide)) (fun _ hk=>hk.2) (.slice Ao30 t234.length co30)) (fun _ hk=>hk.2) (.slice Ao34 t237.length co34)) (fun _ hk=>⟨hk.1.1.1.1.2,⟨hk.1.1.1.2,⟨hk.1.1.1.1.1,⟨hk.1.1.2,hk.1.2⟩⟩⟩⟩)))⟩;have n3_:Aside0 (Kd.R Kd.string 9 w35 w.heap.size (fun k_=>some k_ ≠ (.slice Ao19 t220.length co19:Value).ownBlock ∧ some k_ ≠ (.slice Ao20 t223.length co20:Value).ownBlock ∧ some k_ ≠ (.slice Ao23 t226.length co23:Value).ownBlock ∧ some k_ ≠ (.slice Ao30 t234.length co30:Value).ownBlock ∧ some k_ ≠ (.slice Ao34 t237.length co34:Value).ownBlock) (.slice Ao26 t229.length co26) t229):=⟨(by rw [hw];exact (by (with_reducible repeat (first|apply Kd.R_alloc));exact Kd.R_mono (Kd.R_far (p:=⟨gb240,1,none⟩) (Kd.R_far (p:=⟨gb240,0,none⟩) (Kd.R_types HO231.out BK240.out (by decide)) (fun _ hk=>hk.2) (.slice Ao30 t234.length co30)) (fun _ hk=>hk.2) (.slice Ao34 t237.length co34)) (fun _ hk=>⟨hk.1.1.1.1.2,⟨hk.1.1.1.2,⟨hk.1.1.1.1.1,⟨hk.1.1.2,hk.1.2⟩⟩⟩⟩)))⟩;have n4_:Aside0 (Kd.R Kd.string 9 w35 w.heap.size (fun k_=>some k_ ≠ (.slice Ao19 t220.length co19:Value).ownBlock ∧ some k_ ≠ (.slice Ao20 t223.length co20:Value).ownBlock ∧ some k_ ≠ (.slice Ao23 t226.length co23:Value).ownBlock ∧ some k_ ≠ (.slice Ao26 t229.length co26:Value).ownBlock ∧ some k_ ≠ (.slice Ao34 t237.length co34:Value).ownBlock) (.slice Ao30 t234.length co30) t234):=⟨(by rw [hw];exact (by (with_reducible repeat (first|apply Kd.R_alloc));exact Kd.R_mono (Kd.R_far (p:=⟨gb240,1,none⟩) (Kd.R_far (p:=⟨gb240,0,none⟩) (Kd.R_types HO236.out BK240.out (by decide)) (fun _ hk=>hk.2) (.slice Ao30 t234.length co30)) (fun _ hk=>hk.2) (.slice Ao34 t237.length co34)) (fun _ hk=>⟨hk.1.1.1.1.2,⟨hk.1.1.1.2,⟨hk.1.1.2,⟨hk.1.2,hk.1.1.1.1.1⟩⟩⟩⟩)))⟩;have n5_:Aside0 (Kd.R Kd.string 9 w35 w.heap.size (fun k_=>some k_ ≠ (.slice Ao19 t220.length co19:Value).ownBlock ∧ some k_ ≠ (.slice Ao20 t223.length co20:Value).ownBlock ∧ some k_ ≠ (.slice Ao23 t226.length co23:Value).ownBlock ∧ some k_ ≠ (.slice Ao26 t229.length co26:Value).ownBlock ∧ some k_ ≠ (.slice Ao30 t234.length co30:Value).ownBlock) (.slice Ao34 t237.length co34) t237):=⟨(by rw [hw];exact (by (with_reducible repeat (first|apply Kd.R_alloc));exact Kd.R_mono (Kd.R_far (p:=⟨gb240,1,none⟩) (Kd.R_far (p:=⟨gb240,0,none⟩) (Kd.R_types HO239.out BK240.out (by decide)) (fun _ hk=>hk.2) (.slice Ao30 t234.length co30)) (fun _ hk=>hk.2) (.slice Ao34 t237.length co34)) (fun _ hk=>⟨hk.1.1.1.1.2,⟨hk.1.1.1.2,⟨hk.1.1.2,⟨hk.1.2,hk.1.1.1.1.1⟩⟩⟩⟩)))⟩;have n6_:Aside0 (w35.heap[gb218]? = some (.cells #[.slice A0_0 l0_0.length c0_0,.slice A0_1 l0_1.length c0_1] 30 (0,0))):=⟨(by rw [hw];exact (by (with_reducible repeat (refine blk_alloc ?_ _));refine blk_far ?_ NB218_240.out _;(with_reducible repeat (refine blk_alloc ?_ _));refine blk_far ?_ NB218_240.out _;(with_reducible repeat (refine blk_alloc ?_ _));exact BK218.out))⟩;have n7_:Aside0 (w35.heap[gb233]? = some (.cells #[.slice Ao23 t226.length co23,.slice Ao26 t229.length co26] 34 (0,0))):=⟨(by rw [hw];exact (by (with_reducible repeat (refine blk_alloc ?_ _));refine blk_far ?_ NB233_240.out _;(with_reducible repeat (refine blk_alloc ?_ _));refine blk_far ?_ NB233_240.out _;(with_reducible repeat (refine blk_alloc ?_ _));exact BK233.out))⟩;have n8_:Aside0 (w35.heap[gb240]? = some (.cells #[.slice Ao30 t234.length co30,.slice Ao34 t237.length co34] 34 (0,0))):=⟨(by rw [hw];exact (by (with_reducible repeat (refine blk_alloc ?_ _));refine blk_put (cs:=#[.slice Ao30 t234.length co30,.slice none 0 0]) ?_ 1 _ rfl;(with_reducible repeat (refine blk_alloc ?_ _));refine blk_put (cs:=#[.slice none 0 0,.slice none 0 0]) ?_ 0 _ rfl;(with_reducible repeat (refine blk_alloc ?_ _));exact BK240.out))⟩;have n9_:Aside0 (Below w.heap.size w w35):=⟨(by rw [hw];exact (by repeat (first|(with_reducible first|exact HB.out|apply below_alloc|refine below_set ?_ GE218.out|refine below_set ?_ GE233.out|refine below_set ?_ GE240.out)|exact HB.out)))⟩;clear hw;clear HO222;clear HO225;clear HO228;clear HO231;clear HO236;clear HO239;clear BK218;clear BK233;clear BK240;clear HB;have HO222:=n0_;have HO225:=n1_;have HO228:=n2_;have HO231:=n3_;have HO236:=n4_;have HO239:=n5_;have BK218:=n6_;have BK233:=n7_;have BK240:=n8_;have HB:=n9_;clear n0_ n1_ n2_ n3_ n4_ n5_ n6_ n7_ n8_ n9_;have hcz36_0:w35.cell? ⟨gb240,0,none⟩ = some (.slice Ao30 t234.length co30):=(blk_cell BK240.out 0).trans rfl;have hcz36_1:w35.cell? ⟨gb240,1,none⟩ = some (.slice Ao34 t237.length co34):=(blk_cell BK240.out 1).trans rfl;have hfz36_0:=blk_frozen BK240.out 0;have hfz36_1:=blk_frozen BK240.out 1)|((with_reducible refine gate_callee (f:=28) rfl ?_);refine goesL_ (some 37) rfl rfl Try.func28 (by kernel_rfl) rfl #[.agg #[.slice Ao30 t234.length co30,.slice Ao34 t237.length co34],.int .i64 a1,.int .i64 a2] rfl (by (try simp only [List.map_toArray,List.map_cons,List.map_nil]);first|done|rfl|(simp only [List.length_drop,List.length_take];rfl)) ?_;(with_reducible refine (impl_CrashDisk.calls k (fun k_=>some k_ = (.slice Ao30 t234.length co30:Value).ownBlock) _ _ t234 (fun k_=>some k_ = (.slice Ao34 t237.length co34:Value).ownBlock) _ _ t237 a1 a2 t241 t244 t247 _ ?side1 ?side2 A12.out).mono ?_);(case side1=>exact Kd.R_V (Kd.R_tight rfl (Kd.R_types (Kd.R_types (Kd.R_types (HO236.out) BK218.out (by decide)) BK233.out (by decide)) BK240.out (by decide))));(case side2=>exact Kd.R_V (Kd.R_tight rfl (Kd.R_types (Kd.R_types (Kd.R_types (HO239.out) BK218.out (by decide)) BK233.out (by decide)) BK240.out (by decide))));rintro e w37 ⟨v242,v245,rfl,ho0,ho1,hb⟩;refine ⟨_,rfl,?_⟩;have n0_:=Aside0.mk (Kd.R_mono (Kd.R_told (Kd.R_told (Kd.R_old (by (with_reducible repeat (first|apply Kd.R_alloc));exact HO222.out) hb) (Kd.R_base ho0)) (Kd.R_base ho1)) (fun _ h_=>h_.1));have n1_:=Aside0.mk (Kd.R_mono (Kd.R_told (Kd.R_told (Kd.R_old (by (with_reducible repeat (first|apply Kd.R_alloc));exact HO225.out) hb) (Kd.R_base ho0)) (Kd.R_base ho1)) (fun _ h_=>h_.1));have n2_:=Aside0.mk (Kd.R_mono (Kd.R_told (Kd.R_told (Kd.R_old (by (with_reducible repeat (first|apply Kd.R_alloc));exact HO228.out) hb) (Kd.R_base ho0)) (Kd.R_base ho1)) (fun _ h_=>h_.1));have n3_:=Aside0.mk (Kd.R_mono (Kd.R_told (Kd.R_told (Kd.R_old (by (with_reducible repeat (first|apply Kd.R_alloc));exact HO231.out) hb) (Kd.R_base ho0)) (Kd.R_base ho1)) (fun _ h_=>h_.1));have n4_:=Aside0.mk (Kd.R_mono (Kd.R_told (Kd.R_told (Kd.R_old (by (with_reducible repeat (first|apply Kd.R_alloc));exact HO236.out) hb) (Kd.R_base ho0)) (Kd.R_base ho1)) (fun _ h_=>h_.1));have n5_:=Aside0.mk (Kd.R_mono (Kd.R_told (Kd.R_told (Kd.R_old (by (with_reducible repeat (first|apply Kd.R_alloc));exact HO239.out) hb) (Kd.R_base ho0)) (Kd.R_base ho1)) (fun _ h_=>h_.1));have n6_:=Aside0.mk (Kd.R_lower (Kd.R_new' (Kd.R_new' (Kd.R_new' (Kd.R_new' (Kd.R_new' (Kd.R_new' (Kd.R_mono (ok':=fun k_=>some k_ ≠ (v245:Value).ownBlock) ho0 (fun _ hk_=>hk_.2)) (Kd.R_lt (by (with_reducible repeat (first|apply Kd.R_alloc));exact HO222.out))) (Kd.R_lt (by (with_reducible repeat (first|apply Kd.R_alloc));exact HO225.out))) (Kd.R_lt (by (with_reducible repeat (first|apply Kd.R_alloc));exact HO228.out))) (Kd.R_lt (by (with_reducible repeat (first|apply Kd.R_alloc));exact HO231.out))) (Kd.R_lt (by (with_reducible repeat (first|apply Kd.R_alloc));exact HO236.out))) (Kd.R_lt (by (with_reducible repeat (first|apply Kd.R_alloc));exact HO239.out))) (below_size (by repeat (first|(with_reducible first|exact HB.out|apply below_alloc|refine below_set ?_ GE218.out|refine below_set ?_ GE233.out|refine below_set ?_ GE240.out)|exact HB.out))));have n7_:=Aside0.mk (Kd.R_lower (Kd.R_new' (Kd.R_new' (Kd.R_new' (Kd.R_new' (Kd.R_new' (Kd.R_new' (Kd.R_mono (ok':=fun k_=>some k_ ≠ (v242:Value).ownBlock) ho1 (fun _ hk_=>hk_.2)) (Kd.R_lt (by (with_reducible repeat (first|apply Kd.R_alloc));exact HO222.out))) (Kd.R_lt (by (with_reducible repeat (first|apply Kd.R_alloc));exact HO225.out))) (Kd.R_lt (by (with_reducible repeat (first|apply Kd.R_alloc));exact HO228.out))) (Kd.R_lt (by (with_reducible repeat (first|apply Kd.R_alloc));exact HO231.out))) (Kd.R_lt (by (with_reducible repeat (first|apply Kd.R_alloc));exact HO236.out))) (Kd.R_lt (by (with_reducible repeat (first|apply Kd.R_alloc));exact HO239.out))) (below_size (by repeat (first|(with_reducible first|exact HB.out|apply below_alloc|refine below_set ?_ GE218.out|refine below_set ?_ GE233.out|refine below_set ?_ GE240.out)|exact HB.out))));have n8_:=Aside0.mk (blk_below (g:=gb218) (o:=.cells #[.slice A0_0 l0_0.length c0_0,.slice A0_1 l0_1.length c0_1] 30 (0,0)) (by (with_reducible repeat (refine blk_alloc ?_ _));exact BK218.out) hb);have n9_:=Aside0.mk (blk_below (g:=gb233) (o:=.cells #[.slice Ao23 t226.length co23,.slice Ao26 t229.length co26] 34 (0,0)) (by (with_reducible repeat (refine blk_alloc ?_ _));exact BK233.out) hb);have n10_:=Aside0.mk (blk_below (g:=gb240) (o:=.cells #[.slice Ao30 t234.length co30,.slice Ao34 t237.length co34] 34 (0,0)) (by (with_reducible repeat (refine blk_alloc ?_ _));exact BK240.out) hb);have n11_:=Aside0.mk (below_step (by repeat (first|(with_reducible first|exact HB.out|apply below_alloc|refine below_set ?_ GE218.out|refine below_set ?_ GE233.out|refine below_set ?_ GE240.out)|exact HB.out)) hb);clear HO222;clear HO225;clear HO228;clear HO231;clear HO236;clear HO239;clear BK218;clear BK233;clear BK240;clear HB;have HO222:=n0_;have HO225:=n1_;have HO228:=n2_;have HO231:=n3_;have HO236:=n4_;have HO239:=n5_;have HO243:=n6_;have HO246:=n7_;have BK218:=n8_;have BK233:=n9_;have BK240:=n10_;have HB:=n11_;clear n0_ n1_ n2_ n3_ n4_ n5_ n6_ n7_ n8_ n9_ n10_ n11_;(try clear hb);(try clear hb2);(try clear hk);(try clear hi);(try clear ho0);(try clear ho1))|((with_reducible refine gate_dst (N:=11) rfl ?_);refine box_event ?hg (N:=11) ?hd (cs:=#[.slice none 0 0,.slice none 0 0]) (t:=34) ?hr ?_;(case hd=>rfl);(case hg=>rfl);(case hr=>first|(go_simp;done)|(go_simp;rfl));intro gb248 hg w38 hbox hb;have n0_:=Aside0.mk (Kd.R_below (by (with_reducible repeat (first|apply Kd.R_alloc));exact HO222.out) hb);have n1_:=Aside0.mk (Kd.R_below (by (with_reducible repeat (first|apply Kd.R_alloc));exact HO225.out) hb);have n2_:=Aside0.mk (Kd.R_below (by (with_reducible repeat (first|apply Kd.R_alloc));exact HO228.out) hb);have n3_:=Aside0.mk (Kd.R_below (by (with_reducible repeat (first|apply Kd.R_alloc));exact HO231.out) hb);have n4_:=Aside0.mk (Kd.R_below (by (with_reducible repeat (first|apply Kd.R_alloc));exact HO236.out) hb);have n5_:=Aside0.mk (Kd.R_below (by (with_reducible repeat (first|apply Kd.R_alloc));exact HO239.out) hb);have n6_:=Aside0.mk (Kd.R_below (by (with_reducible repeat (first|apply Kd.R_alloc));exact HO243.out) hb);have n7_:=Aside0.mk (Kd.R_below (by (with_reducible repeat (first|apply Kd.R_alloc));exact HO246.out) hb);have n8_:=Aside0.mk (blk_below (g:=gb218) (o:=.cells #[.slice A0_0 l0_0.length c0_0,.slice A0_1 l0_1.length c0_1] 30 (0,0)) (by (with_reducible repeat (refine blk_alloc ?_ _));exact BK218.out) hb);have n9_:=Aside0.mk (blk_below (g:=gb233) (o:=.cells #[.slice Ao23 t226.length co23,.slice Ao26 t229.length co26] 34 (0,0)) (by (with_reducible repeat (refine blk_alloc ?_ _));exact BK233.out) hb);have n10_:=Aside0.mk (blk_below (g:=gb240) (o:=.cells #[.slice Ao30 t234.length co30,.slice Ao34 t237.length co34] 34 (0,0)) (by (with_reducible repeat (refine blk_alloc ?_ _));exact BK240.out) hb);have n11_:=Aside0.mk (below_step (by repeat (first|(with_reducible first|exact HB.out|apply below_alloc|refine below_set ?_ GE218.out|refine below_set ?_ GE233.out|refine below_set ?_ GE240.out)|exact HB.out)) hb);have n12_:=Aside0.mk (hbox);have n13_:=Aside0.mk ((by rw [hg];exact (below_size (by repeat (first|(with_reducible first|exact HB.out|apply below_alloc|refine below_set ?_ GE218.out|refine below_set ?_ GE233.out|refine below_set ?_ GE240.out)|exact HB.out))):w.heap.size ≤ gb248));have n14_:=Aside0.mk ((by rw [hg];exact (below_size (by repeat (first|(with_reducible first|exact HB.out|apply below_alloc|refine below_set ?_ GE218.out|refine below_set ?_ GE233.out|refine below_set ?_ GE240.out)|exact HB.out))):w.heap.size ≤ gb248));have n15_:=Aside0.mk ((by rw [hg];exact Nat.ne_of_lt (blk_lt (g:=gb218) (o:=.cells #[.slice A0_0 l0_0.length c0_0,.slice A0_1 l0_1.length c0_1] 30 (0,0)) (by (with_reducible repeat (refine blk_alloc ?_ _));exact BK218.out)):gb218 ≠ gb248));have n16_:=Aside0.mk ((by rw [hg];exact Nat.ne_of_gt (blk_lt (g:=gb218) (o:=.cells #[.slice A0_0 l0_0.length c0_0,.slice A0_1 l0_1.length c0_1] 30 (0,0)) (by (with_reducible repeat (refine blk_alloc ?_ _));exact BK218.out)):gb248 ≠ gb218));have n17_:=Aside0.mk ((by rw [hg];exact Nat.ne_of_lt (blk_lt (g:=gb233) (o:=.cells #[.slice Ao23 t226.length co23,.slice Ao26 t229.length co26] 34 (0,0)) (by (with_reducible repeat (refine blk_alloc ?_ _));exact BK233.out)):gb233 ≠ gb248));have n18_:=Aside0.mk ((by rw [hg];exact Nat.ne_of_gt (blk_lt (g:=gb233) (o:=.cells #[.slice Ao23 t226.length co23,.slice Ao26 t229.length co26] 34 (0,0)) (by (with_reducible repeat (refine blk_alloc ?_ _));exact BK233.out)):gb248 ≠ gb233));have n19_:=Aside0.mk ((by rw [hg];exact Nat.ne_of_lt (blk_lt (g:=gb240) (o:=.cells #[.slice Ao30 t234.length co30,.slice Ao34 t237.length co34] 34 (0,0)) (by (with_reducible repeat (refine blk_alloc ?_ _));exact BK240.out)):gb240 ≠ gb248));have n20_:=Aside0.mk ((by rw [hg];exact Nat.ne_of_gt (blk_lt (g:=gb240) (o:=.cells #[.slice Ao30 t234.length co30,.slice Ao34 t237.length co34] 34 (0,0)) (by (with_reducible repeat (refine blk_alloc ?_ _));exact BK240.out)):gb248 ≠ gb240));clear HO222;clear HO225;clear HO228;clear HO231;clear HO236;clear HO239;clear HO243;clear HO246;clear BK218;clear BK233;clear BK240;clear HB;have HO222:=n0_;have HO225:=n1_;have HO228:=n2_;have HO231:=n3_;have HO236:=n4_;have HO239:=n5_;have HO243:=n6_;have HO246:=n7_;have BK218:=n8_;have BK233:=n9_;have BK240:=n10_;have HB:=n11_;have BK248:=n12_;have GW248:=n13_;have GE248:=n14_;have NB218_248:=n15_;have NB248_218:=n16_;have NB233_248:=n17_;have NB248_233:=n18_;have NB240_248:=n19_;have NB248_240:=n20_;clear n0_ n1_ n2_ n3_ n4_ n5_ n6_ n7_ n8_ n9_ n10_ n11_ n12_ n13_ n14_ n15_ n16_ n17_ n18_ n19_ n20_;clear hb hbox hg;obtain ⟨Ao39,co39,eo39⟩:=Kd.R_slice HO243.out;subst eo39;have hnb40:=NB248_218.out;have hnc40:=NB218_248.out;have hnb41:=NB248_233.out;have hnc41:=NB233_248.out;have hnb42:=NB248_240.out;have hnc42:=NB240_248.out;have hcz43_0:w38.cell? ⟨gb248,0,none⟩ = some (.slice none 0 0):=(blk_cell BK248.out 0).trans rfl;have hcz43_1:w38.cell? ⟨gb248,1,none⟩ = some (.slice none 0 0):=(blk_cell BK248.out 1).trans rfl;have hfz43_0:=blk_frozen BK248.out 0;have hfz43_1:=blk_frozen BK248.out 1;obtain ⟨Ao44,co44,eo44⟩:=Kd.R_slice HO246.out;subst eo44))
  (try simp only [Act.put,List.setIfInBounds_toArray,List.set_cons_zero,List.set_cons_succ])
  go_cut [48] (fun v48 wc=>∃ (kq:Nat) (x48_12:Bool),v48 = .bool x48_12 ∧ Aside0 (laws_FnExactCrashDisk.j0 kq a1 a2 t232 t247 x48_12 l0_0 l0_1 t226 t229 t234 t237 t241 t244 = some r) ∧ Aside0 (kq ≤ k) ∧ Aside0 (Kd.R Kd.string 9 wc w.heap.size (fun k_=>some k_ ≠ ((.slice Ao26 t229.length co26):Value).ownBlock ∧ some k_ ≠ ((.slice Ao30 t234.length co30):Value).ownBlock ∧ some k_ ≠ ((.slice Ao34 t237.length co34):Value).ownBlock ∧ some k_ ≠ ((.slice Ao39 t241.length co39):Value).ownBlock ∧ some k_ ≠ ((.slice Ao44 t244.length co44):Value).ownBlock) (.slice Ao23 t226.length co23) t226) ∧ Aside0 (Kd.R Kd.string 9 wc w.heap.size (fun k_=>some k_ ≠ ((.slice Ao23 t226.length co23):Value).ownBlock ∧ some k_ ≠ ((.slice Ao30 t234.length co30):Value).ownBlock ∧ some k_ ≠ ((.slice Ao34 t237.length co34):Value).ownBlock ∧ some k_ ≠ ((.slice Ao39 t241.length co39):Value).ownBlock ∧ some k_ ≠ ((.slice Ao44 t244.length co44):Value).ownBlock) (.slice Ao26 t229.length co26) t229) ∧ Aside0 (Kd.R Kd.string 9 wc w.heap.size (fun k_=>some k_ ≠ ((.slice Ao23 t226.length co23):Value).ownBlock ∧ some k_ ≠ ((.slice Ao26 t229.length co26):Value).ownBlock ∧ some k_ ≠ ((.slice Ao34 t237.length co34):Value).ownBlock ∧ some k_ ≠ ((.slice Ao39 t241.length co39):Value).ownBlock ∧ some k_ ≠ ((.slice Ao44 t244.length co44):Value).ownBlock) (.slice Ao30 t234.length co30) t234) ∧ Aside0 (Kd.R Kd.string 9 wc w.heap.size (fun k_=>some k_ ≠ ((.slice Ao23 t226.length co23):Value).ownBlock ∧ some k_ ≠ ((.slice Ao26 t229.length co26):Value).ownBlock ∧ some k_ ≠ ((.slice Ao30 t234.length co30):Value).ownBlock ∧ some k_ ≠ ((.slice Ao39 t241.length co39):Value).ownBlock ∧ some k_ ≠ ((.slice Ao44 t244.length co44):Value).ownBlock) (.slice Ao34 t237.length co34) t237) ∧ Aside0 (Kd.R Kd.string 9 wc w.heap.size (fun k_=>some k_ ≠ ((.slice Ao23 t226.length co23):Value).ownBlock ∧ some k_ ≠ ((.slice Ao26 t229.length co26):Value).ownBlock ∧ some k_ ≠ ((.slice Ao30 t234.length co30):Value).ownBlock ∧ some k_ ≠ ((.slice Ao34 t237.length co34):Value).ownBlock ∧ some k_ ≠ ((.slice Ao44 t244.length co44):Value).ownBlock) (.slice Ao39 t241.length co39) t241) ∧ Aside0 (Kd.R Kd.string 9 wc w.heap.size (fun k_=>some k_ ≠ ((.slice Ao23 t226.length co23):Value).ownBlock ∧ some k_ ≠ ((.slice Ao26 t229.length co26):Value).ownBlock ∧ some k_ ≠ ((.slice Ao30 t234.length co30):Value).ownBlock ∧ some k_ ≠ ((.slice Ao34 t237.length co34):Value).ownBlock ∧ some k_ ≠ ((.slice Ao39 t241.length co39):Value).ownBlock) (.slice Ao44 t244.length co44) t244) ∧ Aside0 (wc.heap[gb218]? = some (.cells #[(.slice A0_0 l0_0.length c0_0),(.slice A0_1 l0_1.length c0_1)] 30 (0,0))) ∧ Aside0 (wc.heap[gb233]? = some (.cells #[(.slice Ao23 t226.length co23),(.slice Ao26 t229.length co26)] 34 (0,0))) ∧ Aside0 (wc.heap[gb240]? = some (.cells #[(.slice Ao30 t234.length co30),(.slice Ao34 t237.length co34)] 34 (0,0))) ∧ Aside0 (wc.heap[gb248]? = some (.cells #[(.slice Ao39 t241.length co39),(.slice Ao44 t244.length co44)] 34 (0,0))) ∧ Aside0 (Below w.heap.size w wc))
  case first =>
   have H:=HC13.out
   clear HC13
   replace H:=Option.bind_eq_some_iff.mp H
   obtain ⟨t249,A450,H⟩:=H
   replace H:(if t249 = true then (laws_FnExactCrashDisk.j0 k a1 a2 t232 t247 (t247 != t232) l0_0 l0_1 t226 t229 t234 t237 t241 t244) else (laws_FnExactCrashDisk.j0 k a1 a2 t232 t247 true l0_0 l0_1 t226 t229 t234 t237 t241 t244)) = some r:=H
   have A45:=Aside0.mk A450
   clear A450
   by_cases c46:t249 = true
   ·subst c46
    have H1:(laws_FnExactCrashDisk.j0 k a1 a2 t232 t247 (t247 != t232) l0_0 l0_1 t226 t229 t234 t237 t241 t244) = some r:=by rw [if_pos rfl] at H;exact H
    clear H
    have H:=H1
    clear H1
    have H':=Aside0.mk H
    clear H
    have hnb47:=NB248_218.out
    have hnc47:=NB218_248.out
    have hnb48:=NB248_233.out
    have hnc48:=NB233_248.out
    have hnb49:=NB248_240.out
    have hnc49:=NB240_248.out
    have hcz50_0:w38.cell? ⟨gb248,0,none⟩ = some (.slice none 0 0):=(blk_cell BK248.out 0).trans rfl
    have hcz50_1:w38.cell? ⟨gb248,1,none⟩ = some (.slice none 0 0):=(blk_cell BK248.out 1).trans rfl
    have hfz50_0:=blk_frozen BK248.out 0
    have hfz50_1:=blk_frozen BK248.out 1
    have hnb51:=NB233_218.out
    have hnc51:=NB218_233.out
    have hnb52:=NB233_240.out
    have hnc52:=NB240_233.out
    have hcz53_0:w38.cell? ⟨gb233,0,none⟩ = some (.slice Ao23 t226.length co23):=(blk_cell BK233.out 0).trans rfl
    have hcz53_1:w38.cell? ⟨gb233,1,none⟩ = some (.slice Ao26 t229.length co26):=(blk_cell BK233.out 1).trans rfl
    have hfz53_0:=blk_frozen BK233.out 0
    have hfz53_1:=blk_frozen BK233.out 1
    go_wp2_with (first|((with_reducible refine gate_callee (f:=18) rfl ?_);refine goesL_ (some 42) rfl rfl Try.func18 (by kernel_rfl) rfl #[.agg #[.slice Ao39 t241.length co39,.slice Ao44 t244.length co44],.agg #[.slice Ao23 t226.length co23,.slice Ao26 t229.length co26]] rfl (by (try simp only [List.map_toArray,List.map_cons,List.map_nil]);first|done|rfl|(simp only [List.length_drop,List.length_take];rfl)) ?_;(with_reducible refine (laws_eqDisk.calls k _ _ t241 _ _ t244 _ _ t226 _ _ t229 true _ ?side1 ?side2 ?side3 ?side4 ?side5 ?side6 ?side7 ?side8 A45.out).mono ?_);(case side1=>refine (Kd.R_reads' (e:=9) (base:=w.heap.size) (ok:=fun k_=>((((((some k_ ≠ (.slice Ao44 t244.length co44:Value).ownBlock ∧ some k_ ≠ (.slice Ao19 t220.length co19:Value).ownBlock) ∧ some k_ ≠ (.slice Ao20 t223.length co20:Value).ownBlock) ∧ some k_ ≠ (.slice Ao23 t226.length co23:Value).ownBlock) ∧ some k_ ≠ (.slice Ao26 t229.length co26:Value).ownBlock) ∧ some k_ ≠ (.slice Ao30 t234.length co30:Value).ownBlock) ∧ some k_ ≠ (.slice Ao34 t237.length co34:Value).ownBlock)) (n:=t241.length) (c:=co39) ?_).2.2;exact (by (with_reducible repeat (first|apply Kd.R_alloc));exact (Kd.R_mono (Kd.R_far (p:=⟨gb248,1,none⟩) (Kd.R_far (p:=⟨gb248,0,none⟩) (Kd.R_types HO243.out BK248.out (by decide)) (fun _ hk=>hk.2) (.slice Ao39 t241.length co39)) (fun _ hk=>hk.2) (.slice Ao44 t244.length co44)) (fun _ h_=>h_.1))));(case side2=>exact (Kd.R_reads' HO243.out).2.1);(case side3=>refine (Kd.R_reads' (e:=9) (base:=w.heap.size) (ok:=fun k_=>((((((some k_ ≠ (.slice Ao39 t241.length co39:Value).ownBlock ∧ some k_ ≠ (.slice Ao19 t220.length co19:Value).ownBlock) ∧ some k_ ≠ (.slice Ao20 t223.length co20:Value).ownBlock) ∧ some k_ ≠ (.slice Ao23 t226.length co23:Value).ownBlock) ∧ some k_ ≠ (.slice Ao26 t229.length co26:Value).ownBlock) ∧ some k_ ≠ (.slice Ao30 t234.length co30:Value).ownBlock) ∧ some k_ ≠ (.slice Ao34 t237.length co34:Value).ownBlock)) (n:=t244.length) (c:=co44) ?_).2.2;exact (by (with_reducible repeat (first|apply Kd.R_alloc));exact (Kd.R_mono (Kd.R_far (p:=⟨gb248,1,none⟩) (Kd.R_far (p:=⟨gb248,0,none⟩) (Kd.R_types HO246.out BK248.out (by decide)) (fun _ hk=>hk.2) (.slice Ao39 t241.length co39)) (fun _ hk=>hk.2) (.slice Ao44 t244.length co44)) (fun _ h_=>h_.1))));(case side4=>exact (Kd.R_reads' HO246.out).2.1);(case side5=>refine (Kd.R_reads' (e:=9) (base:=w.heap.size) (ok:=fun k_=>(((some k_ ≠ (.slice Ao19 t220.length co19:Value).ownBlock ∧ (some k_ ≠ (.slice Ao20 t223.length co20:Value).ownBlock ∧ (some k_ ≠ (.slice Ao26 t229.length co26:Value).ownBlock ∧ (some k_ ≠ (.slice Ao30 t234.length co30:Value).ownBlock ∧ some k_ ≠ (.slice Ao34 t237.length co34:Value).ownBlock)))) ∧ some k_ ≠ (.slice Ao39 t241.length co39:Value).ownBlock) ∧ some k_ ≠ (.slice Ao44 t244.length co44:Value).ownBlock)) (n:=t226.length) (c:=co23) ?_).2.2;exact (by (with_reducible repeat (first|apply Kd.R_alloc));exact (Kd.R_mono (Kd.R_far (p:=⟨gb248,1,none⟩) (Kd.R_far (p:=⟨gb248,0,none⟩) (Kd.R_types HO228.out BK248.out (by decide)) (fun _ hk=>hk.2) (.slice Ao39 t241.length co39)) (fun _ hk=>hk.2) (.slice Ao44 t244.length co44)) (fun _ h_=>h_.1))));(case side6=>exact (Kd.R_reads' HO228.out).2.1);(case side7=>refine (Kd.R_reads' (e:=9) (base:=w.heap.size) (ok:=fun k_=>(((some k_ ≠ (.slice Ao19 t220.length co19:Value).ownBlock ∧ (some k_ ≠ (.slice Ao20 t223.length co20:Value).ownBlock ∧ (some k_ ≠ (.slice Ao23 t226.length co23:Value).ownBlock ∧ (some k_ ≠ (.slice Ao30 t234.length co30:Value).ownBlock ∧ some k_ ≠ (.slice Ao34 t237.length co34:Value).ownBlock)))) ∧ some k_ ≠ (.slice Ao39 t241.length co39:Value).ownBlock) ∧ some k_ ≠ (.slice Ao44 t244.length co44:Value).ownBlock)) (n:=t229.length) (c:=co26) ?_).2.2;exact (by (with_reducible repeat (first|apply Kd.R_alloc));exact (Kd.R_mono (Kd.R_far (p:=⟨gb248,1,none⟩) (Kd.R_far (p:=⟨gb248,0,none⟩) (Kd.R_types HO231.out BK248.out (by decide)) (fun _ hk=>hk.2) (.slice Ao39 t241.length co39)) (fun _ hk=>hk.2) (.slice Ao44 t244.length co44)) (fun _ h_=>h_.1))));(case side8=>exact (Kd.R_reads' HO231.out).2.1);rintro e w54 ⟨rfl,hb⟩;refine ⟨_,rfl,?_⟩;have n0_:=Aside0.mk (Kd.R_below (by (with_reducible repeat (first|apply Kd.R_alloc));exact (Kd.R_mono (Kd.R_far (p:=⟨gb248,1,none⟩) (Kd.R_far (p:=⟨gb248,0,none⟩) (Kd.R_types HO222.out BK248.out (by decide)) (fun _ hk=>hk.2) (.slice Ao39 t241.length co39)) (fun _ hk=>hk.2) (.slice Ao44 t244.length co44)) (fun _ h_=>h_.1))) hb);have n1_:=Aside0.mk (Kd.R_below (by (with_reducible repeat (first|apply Kd.R_alloc));exact (Kd.R_mono (Kd.R_far (p:=⟨gb248,1,none⟩) (Kd.R_far (p:=⟨gb248,0,none⟩) (Kd.R_types HO225.out BK248.out (by decide)) (fun _ hk=>hk.2) (.slice Ao39 t241.length co39)) (fun _ hk=>hk.2) (.slice Ao44 t244.length co44)) (fun _ h_=>h_.1))) hb);have n2_:=Aside0.mk (Kd.R_below (by (with_reducible repeat (first|apply Kd.R_alloc));exact (Kd.R_mono (Kd.R_far (p:=⟨gb248,1,none⟩) (Kd.R_far (p:=⟨gb248,0,none⟩) (Kd.R_types HO228.out BK248.out (by decide)) (fun _ hk=>hk.2) (.slice Ao39 t241.length co39)) (fun _ hk=>hk.2) (.slice Ao44 t244.length co44)) (fun _ h_=>h_.1))) hb);have n3_:=Aside0.mk (Kd.R_below (by (with_reducible repeat (first|apply Kd.R_alloc));exact (Kd.R_mono (Kd.R_far (p:=⟨gb248,1,none⟩) (Kd.R_far (p:=⟨gb248,0,none⟩) (Kd.R_types HO231.out BK248.out (by decide)) (fun _ hk=>hk.2) (.slice Ao39 t241.length co39)) (fun _ hk=>hk.2) (.slice Ao44 t244.length co44)) (fun _ h_=>h_.1))) hb);have n4_:=Aside0.mk (Kd.R_below (by (with_reducible repeat (first|apply Kd.R_alloc));exact (Kd.R_mono (Kd.R_far (p:=⟨gb248,1,none⟩) (Kd.R_far (p:=⟨gb248,0,none⟩) (Kd.R_types HO236.out BK248.out (by decide)) (fun _ hk=>hk.2) (.slice Ao39 t241.length co39)) (fun _ hk=>hk.2) (.slice Ao44 t244.length co44)) (fun _ h_=>h_.1))) hb);have n5_:=Aside0.mk (Kd.R_below (by (with_reducible repeat (first|apply Kd.R_alloc));exact (Kd.R_mono (Kd.R_far (p:=⟨gb248,1,none⟩) (Kd.R_far (p:=⟨gb248,0,none⟩) (Kd.R_types HO239.out BK248.out (by decide)) (fun _ hk=>hk.2) (.slice Ao39 t241.length co39)) (fun _ hk=>hk.2) (.slice Ao44 t244.length co44)) (fun _ h_=>h_.1))) hb);have n6_:=Aside0.mk (Kd.R_below (by (with_reducible repeat (first|apply Kd.R_alloc));exact (Kd.R_mono (Kd.R_far (p:=⟨gb248,1,none⟩) (Kd.R_far (p:=⟨gb248,0,none⟩) (Kd.R_types HO243.out BK248.out (by decide)) (fun _ hk=>hk.2) (.slice Ao39 t241.length co39)) (fun _ hk=>hk.2) (.slice Ao44 t244.length co44)) (fun _ h_=>h_.1))) hb);have n7_:=Aside0.mk (Kd.R_below (by (with_reducible repeat (first|apply Kd.R_alloc));exact (Kd.R_mono (Kd.R_far (p:=⟨gb248,1,none⟩) (Kd.R_far (p:=⟨gb248,0,none⟩) (Kd.R_types HO246.out BK248.out (by decide)) (fun _ hk=>hk.2) (.slice Ao39 t241.length co39)) (fun _ hk=>hk.2) (.slice Ao44 t244.length co44)) (fun _ h_=>h_.1))) hb);have n8_:=Aside0.mk (blk_below (g:=gb218) (o:=.cells #[.slice A0_0 l0_0.length c0_0,.slice A0_1 l0_1.length c0_1] 30 (0,0)) (by (with_reducible repeat (refine blk_alloc ?_ _));refine blk_far ?_ NB218_248.out _;(with_reducible repeat (refine blk_alloc ?_ _));refine blk_far ?_ NB218_248.out _;(with_reducible repeat (refine blk_alloc ?_ _));exact BK218.out) hb);have n9_:=Aside0.mk (blk_below (g:=gb233) (o:=.cells #[.slice Ao23 t226.length co23,.slice Ao26 t229.length co26] 34 (0,0)) (by (with_reducible repeat (refine blk_alloc ?_ _));refine blk_far ?_ NB233_248.out _;(with_reducible repeat (refine blk_alloc ?_ _));refine blk_far ?_ NB233_248.out _;(with_reducible repeat (refine blk_alloc ?_ _));exact BK233.out) hb);have n10_:=Aside0.mk (blk_below (g:=gb240) (o:=.cells #[.slice Ao30 t234.length co30,.slice Ao34 t237.length co34] 34 (0,0)) (by (with_reducible repeat (refine blk_alloc ?_ _));refine blk_far ?_ NB240_248.out _;(with_reducible repeat (refine blk_alloc ?_ _));refine blk_far ?_ NB240_248.out _;(with_reducible repeat (refine blk_alloc ?_ _));exact BK240.out) hb);have n11_:=Aside0.mk (blk_below (g:=gb248) (o:=.cells #[.slice Ao39 t241.length co39,.slice Ao44 t244.length co44] 34 (0,0)) (by (with_reducible repeat (refine blk_alloc ?_ _));refine blk_put (cs:=#[.slice Ao39 t241.length co39,.slice none 0 0]) ?_ 1 _ rfl;(with_reducible repeat (refine blk_alloc ?_ _));refine blk_put (cs:=#[.slice none 0 0,.slice none 0 0]) ?_ 0 _ rfl;(with_reducible repeat (refine blk_alloc ?_ _));exact BK248.out) hb);have n12_:=Aside0.mk (below_step (by repeat (first|(with_reducible first|exact HB.out|apply below_alloc|refine below_set ?_ GE218.out|refine below_set ?_ GE233.out|refine below_set ?_ GE240.out|refine below_set ?_ GE248.out)|exact HB.out)) hb);clear HO222;clear HO225;clear HO228;clear HO231;clear HO236;clear HO239;clear HO243;clear HO246;clear BK218;clear BK233;clear BK240;clear BK248;clear HB;have HO222:=n0_;have HO225:=n1_;have HO228:=n2_;have HO231:=n3_;have HO236:=n4_;have HO239:=n5_;have HO243:=n6_;have HO246:=n7_;have BK218:=n8_;have BK233:=n9_;have BK240:=n10_;have BK248:=n11_;have HB:=n12_;clear n0_ n1_ n2_ n3_ n4_ n5_ n6_ n7_ n8_ n9_ n10_ n11_ n12_;(try clear hb);(try clear hb2);(try clear hk);(try clear hi)))
    go_meet
    case rel=>exact ⟨_,((t247 != t232)),(by first|rfl|(simp;done)|(simp [*];done)),H',⟨by first|omega|exact Nat.le_refl _⟩,⟨by (with_reducible repeat (first|apply Kd.R_alloc));exact Kd.R_mono HO228.out (fun _ hk=>⟨hk.1.1.2.2.1,⟨hk.1.1.2.2.2.1,⟨hk.1.1.2.2.2.2,⟨hk.1.2,hk.2⟩⟩⟩⟩)⟩,⟨by (with_reducible repeat (first|apply Kd.R_alloc));exact Kd.R_mono HO231.out (fun _ hk=>⟨hk.1.1.2.2.1,⟨hk.1.1.2.2.2.1,⟨hk.1.1.2.2.2.2,⟨hk.1.2,hk.2⟩⟩⟩⟩)⟩,⟨by (with_reducible repeat (first|apply Kd.R_alloc));exact Kd.R_mono HO236.out (fun _ hk=>⟨hk.1.1.2.2.1,⟨hk.1.1.2.2.2.1,⟨hk.1.1.2.2.2.2,⟨hk.1.2,hk.2⟩⟩⟩⟩)⟩,⟨by (with_reducible repeat (first|apply Kd.R_alloc));exact Kd.R_mono HO239.out (fun _ hk=>⟨hk.1.1.2.2.1,⟨hk.1.1.2.2.2.1,⟨hk.1.1.2.2.2.2,⟨hk.1.2,hk.2⟩⟩⟩⟩)⟩,⟨by (with_reducible repeat (first|apply Kd.R_alloc));exact Kd.R_mono HO243.out (fun _ hk=>⟨hk.1.1.1.2,⟨hk.1.1.2,⟨hk.1.2,⟨hk.2,hk.1.1.1.1.1.1⟩⟩⟩⟩)⟩,⟨by (with_reducible repeat (first|apply Kd.R_alloc));exact Kd.R_mono HO246.out (fun _ hk=>⟨hk.1.1.1.2,⟨hk.1.1.2,⟨hk.1.2,⟨hk.2,hk.1.1.1.1.1.1⟩⟩⟩⟩)⟩,⟨by (with_reducible repeat (refine blk_alloc ?_ _));exact BK218.out⟩,⟨by (with_reducible repeat (refine blk_alloc ?_ _));exact BK233.out⟩,⟨by (with_reducible repeat (refine blk_alloc ?_ _));exact BK240.out⟩,⟨by (with_reducible repeat (refine blk_alloc ?_ _));exact BK248.out⟩,⟨by repeat (first|(with_reducible first|exact HB.out|apply below_alloc|refine below_set ?_ GE218.out|refine below_set ?_ GE233.out|refine below_set ?_ GE240.out|refine below_set ?_ GE248.out)|exact HB.out)⟩⟩
   ·replace c46:=Bool.eq_false_iff.mpr c46
    subst c46
    have H1:(laws_FnExactCrashDisk.j0 k a1 a2 t232 t247 true l0_0 l0_1 t226 t229 t234 t237 t241 t244) = some r:=by rw [if_neg (show ¬ (false = true) by decide)] at H;exact H
    clear H
    have H:=H1
    clear H1
    have H':=Aside0.mk H
    clear H
    have hnb55:=NB248_218.out
    have hnc55:=NB218_248.out
    have hnb56:=NB248_233.out
    have hnc56:=NB233_248.out
    have hnb57:=NB248_240.out
    have hnc57:=NB240_248.out
    have hcz58_0:w38.cell? ⟨gb248,0,none⟩ = some (.slice none 0 0):=(blk_cell BK248.out 0).trans rfl
    have hcz58_1:w38.cell? ⟨gb248,1,none⟩ = some (.slice none 0 0):=(blk_cell BK248.out 1).trans rfl
    have hfz58_0:=blk_frozen BK248.out 0
    have hfz58_1:=blk_frozen BK248.out 1
    have hnb59:=NB233_218.out
    have hnc59:=NB218_233.out
    have hnb60:=NB233_240.out
    have hnc60:=NB240_233.out
    have hcz61_0:w38.cell? ⟨gb233,0,none⟩ = some (.slice Ao23 t226.length co23):=(blk_cell BK233.out 0).trans rfl
    have hcz61_1:w38.cell? ⟨gb233,1,none⟩ = some (.slice Ao26 t229.length co26):=(blk_cell BK233.out 1).trans rfl
    have hfz61_0:=blk_frozen BK233.out 0
    have hfz61_1:=blk_frozen BK233.out 1
    go_wp2_with (first|((with_reducible refine gate_callee (f:=18) rfl ?_);refine goesL_ (some 42) rfl rfl Try.func18 (by kernel_rfl) rfl #[.agg #[.slice Ao39 t241.length co39,.slice Ao44 t244.length co44],.agg #[.slice Ao23 t226.length co23,.slice Ao26 t229.length co26]] rfl (by (try simp only [List.map_toArray,List.map_cons,List.map_nil]);first|done|rfl|(simp only [List.length_drop,List.length_take];rfl)) ?_;(with_reducible refine (laws_eqDisk.calls k _ _ t241 _ _ t244 _ _ t226 _ _ t229 false _ ?side1 ?side2 ?side3 ?side4 ?side5 ?side6 ?side7 ?side8 A45.out).mono ?_);(case side1=>refine (Kd.R_reads' (e:=9) (base:=w.heap.size) (ok:=fun k_=>((((((some k_ ≠ (.slice Ao44 t244.length co44:Value).ownBlock ∧ some k_ ≠ (.slice Ao19 t220.length co19:Value).ownBlock) ∧ some k_ ≠ (.slice Ao20 t223.length co20:Value).ownBlock) ∧ some k_ ≠ (.slice Ao23 t226.length co23:Value).ownBlock) ∧ some k_ ≠ (.slice Ao26 t229.length co26:Value).ownBlock) ∧ some k_ ≠ (.slice Ao30 t234.length co30:Value).ownBlock) ∧ some k_ ≠ (.slice Ao34 t237.length co34:Value).ownBlock)) (n:=t241.length) (c:=co39) ?_).2.2;exact (by (with_reducible repeat (first|apply Kd.R_alloc));exact (Kd.R_mono (Kd.R_far (p:=⟨gb248,1,none⟩) (Kd.R_far (p:=⟨gb248,0,none⟩) (Kd.R_types HO243.out BK248.out (by decide)) (fun _ hk=>hk.2) (.slice Ao39 t241.length co39)) (fun _ hk=>hk.2) (.slice Ao44 t244.length co44)) (fun _ h_=>h_.1))));(case side2=>exact (Kd.R_reads' HO243.out).2.1);(case side3=>refine (Kd.R_reads' (e:=9) (base:=w.heap.size) (ok:=fun k_=>((((((some k_ ≠ (.slice Ao39 t241.length co39:Value).ownBlock ∧ some k_ ≠ (.slice Ao19 t220.length co19:Value).ownBlock) ∧ some k_ ≠ (.slice Ao20 t223.length co20:Value).ownBlock) ∧ some k_ ≠ (.slice Ao23 t226.length co23:Value).ownBlock) ∧ some k_ ≠ (.slice Ao26 t229.length co26:Value).ownBlock) ∧ some k_ ≠ (.slice Ao30 t234.length co30:Value).ownBlock) ∧ some k_ ≠ (.slice Ao34 t237.length co34:Value).ownBlock)) (n:=t244.length) (c:=co44) ?_).2.2;exact (by (with_reducible repeat (first|apply Kd.R_alloc));exact (Kd.R_mono (Kd.R_far (p:=⟨gb248,1,none⟩) (Kd.R_far (p:=⟨gb248,0,none⟩) (Kd.R_types HO246.out BK248.out (by decide)) (fun _ hk=>hk.2) (.slice Ao39 t241.length co39)) (fun _ hk=>hk.2) (.slice Ao44 t244.length co44)) (fun _ h_=>h_.1))));(case side4=>exact (Kd.R_reads' HO246.out).2.1);(case side5=>refine (Kd.R_reads' (e:=9) (base:=w.heap.size) (ok:=fun k_=>(((some k_ ≠ (.slice Ao19 t220.length co19:Value).ownBlock ∧ (some k_ ≠ (.slice Ao20 t223.length co20:Value).ownBlock ∧ (some k_ ≠ (.slice Ao26 t229.length co26:Value).ownBlock ∧ (some k_ ≠ (.slice Ao30 t234.length co30:Value).ownBlock ∧ some k_ ≠ (.slice Ao34 t237.length co34:Value).ownBlock)))) ∧ some k_ ≠ (.slice Ao39 t241.length co39:Value).ownBlock) ∧ some k_ ≠ (.slice Ao44 t244.length co44:Value).ownBlock)) (n:=t226.length) (c:=co23) ?_).2.2;exact (by (with_reducible repeat (first|apply Kd.R_alloc));exact (Kd.R_mono (Kd.R_far (p:=⟨gb248,1,none⟩) (Kd.R_far (p:=⟨gb248,0,none⟩) (Kd.R_types HO228.out BK248.out (by decide)) (fun _ hk=>hk.2) (.slice Ao39 t241.length co39)) (fun _ hk=>hk.2) (.slice Ao44 t244.length co44)) (fun _ h_=>h_.1))));(case side6=>exact (Kd.R_reads' HO228.out).2.1);(case side7=>refine (Kd.R_reads' (e:=9) (base:=w.heap.size) (ok:=fun k_=>(((some k_ ≠ (.slice Ao19 t220.length co19:Value).ownBlock ∧ (some k_ ≠ (.slice Ao20 t223.length co20:Value).ownBlock ∧ (some k_ ≠ (.slice Ao23 t226.length co23:Value).ownBlock ∧ (some k_ ≠ (.slice Ao30 t234.length co30:Value).ownBlock ∧ some k_ ≠ (.slice Ao34 t237.length co34:Value).ownBlock)))) ∧ some k_ ≠ (.slice Ao39 t241.length co39:Value).ownBlock) ∧ some k_ ≠ (.slice Ao44 t244.length co44:Value).ownBlock)) (n:=t229.length) (c:=co26) ?_).2.2;exact (by (with_reducible repeat (first|apply Kd.R_alloc));exact (Kd.R_mono (Kd.R_far (p:=⟨gb248,1,none⟩) (Kd.R_far (p:=⟨gb248,0,none⟩) (Kd.R_types HO231.out BK248.out (by decide)) (fun _ hk=>hk.2) (.slice Ao39 t241.length co39)) (fun _ hk=>hk.2) (.slice Ao44 t244.length co44)) (fun _ h_=>h_.1))));(case side8=>exact (Kd.R_reads' HO231.out).2.1);rintro e w62 ⟨rfl,hb⟩;refine ⟨_,rfl,?_⟩;have n0_:=Aside0.mk (Kd.R_below (by (with_reducible repeat (first|apply Kd.R_alloc));exact (Kd.R_mono (Kd.R_far (p:=⟨gb248,1,none⟩) (Kd.R_far (p:=⟨gb248,0,none⟩) (Kd.R_types HO222.out BK248.out (by decide)) (fun _ hk=>hk.2) (.slice Ao39 t241.length co39)) (fun _ hk=>hk.2) (.slice Ao44 t244.length co44)) (fun _ h_=>h_.1))) hb);have n1_:=Aside0.mk (Kd.R_below (by (with_reducible repeat (first|apply Kd.R_alloc));exact (Kd.R_mono (Kd.R_far (p:=⟨gb248,1,none⟩) (Kd.R_far (p:=⟨gb248,0,none⟩) (Kd.R_types HO225.out BK248.out (by decide)) (fun _ hk=>hk.2) (.slice Ao39 t241.length co39)) (fun _ hk=>hk.2) (.slice Ao44 t244.length co44)) (fun _ h_=>h_.1))) hb);have n2_:=Aside0.mk (Kd.R_below (by (with_reducible repeat (first|apply Kd.R_alloc));exact (Kd.R_mono (Kd.R_far (p:=⟨gb248,1,none⟩) (Kd.R_far (p:=⟨gb248,0,none⟩) (Kd.R_types HO228.out BK248.out (by decide)) (fun _ hk=>hk.2) (.slice Ao39 t241.length co39)) (fun _ hk=>hk.2) (.slice Ao44 t244.length co44)) (fun _ h_=>h_.1))) hb);have n3_:=Aside0.mk (Kd.R_below (by (with_reducible repeat (first|apply Kd.R_alloc));exact (Kd.R_mono (Kd.R_far (p:=⟨gb248,1,none⟩) (Kd.R_far (p:=⟨gb248,0,none⟩) (Kd.R_types HO231.out BK248.out (by decide)) (fun _ hk=>hk.2) (.slice Ao39 t241.length co39)) (fun _ hk=>hk.2) (.slice Ao44 t244.length co44)) (fun _ h_=>h_.1))) hb);have n4_:=Aside0.mk (Kd.R_below (by (with_reducible repeat (first|apply Kd.R_alloc));exact (Kd.R_mono (Kd.R_far (p:=⟨gb248,1,none⟩) (Kd.R_far (p:=⟨gb248,0,none⟩) (Kd.R_types HO236.out BK248.out (by decide)) (fun _ hk=>hk.2) (.slice Ao39 t241.length co39)) (fun _ hk=>hk.2) (.slice Ao44 t244.length co44)) (fun _ h_=>h_.1))) hb);have n5_:=Aside0.mk (Kd.R_below (by (with_reducible repeat (first|apply Kd.R_alloc));exact (Kd.R_mono (Kd.R_far (p:=⟨gb248,1,none⟩) (Kd.R_far (p:=⟨gb248,0,none⟩) (Kd.R_types HO239.out BK248.out (by decide)) (fun _ hk=>hk.2) (.slice Ao39 t241.length co39)) (fun _ hk=>hk.2) (.slice Ao44 t244.length co44)) (fun _ h_=>h_.1))) hb);have n6_:=Aside0.mk (Kd.R_below (by (with_reducible repeat (first|apply Kd.R_alloc));exact (Kd.R_mono (Kd.R_far (p:=⟨gb248,1,none⟩) (Kd.R_far (p:=⟨gb248,0,none⟩) (Kd.R_types HO243.out BK248.out (by decide)) (fun _ hk=>hk.2) (.slice Ao39 t241.length co39)) (fun _ hk=>hk.2) (.slice Ao44 t244.length co44)) (fun _ h_=>h_.1))) hb);have n7_:=Aside0.mk (Kd.R_below (by (with_reducible repeat (first|apply Kd.R_alloc));exact (Kd.R_mono (Kd.R_far (p:=⟨gb248,1,none⟩) (Kd.R_far (p:=⟨gb248,0,none⟩) (Kd.R_types HO246.out BK248.out (by decide)) (fun _ hk=>hk.2) (.slice Ao39 t241.length co39)) (fun _ hk=>hk.2) (.slice Ao44 t244.length co44)) (fun _ h_=>h_.1))) hb);have n8_:=Aside0.mk (blk_below (g:=gb218) (o:=.cells #[.slice A0_0 l0_0.length c0_0,.slice A0_1 l0_1.length c0_1] 30 (0,0)) (by (with_reducible repeat (refine blk_alloc ?_ _));refine blk_far ?_ NB218_248.out _;(with_reducible repeat (refine blk_alloc ?_ _));refine blk_far ?_ NB218_248.out _;(with_reducible repeat (refine blk_alloc ?_ _));exact BK218.out) hb);have n9_:=Aside0.mk (blk_below (g:=gb233) (o:=.cells #[.slice Ao23 t226.length co23,.slice Ao26 t229.length co26] 34 (0,0)) (by (with_reducible repeat (refine blk_alloc ?_ _));refine blk_far ?_ NB233_248.out _;(with_reducible repeat (refine blk_alloc ?_ _));refine blk_far ?_ NB233_248.out _;(with_reducible repeat (refine blk_alloc ?_ _));exact BK233.out) hb);have n10_:=Aside0.mk (blk_below (g:=gb240) (o:=.cells #[.slice Ao30 t234.length co30,.slice Ao34 t237.length co34] 34 (0,0)) (by (with_reducible repeat (refine blk_alloc ?_ _));refine blk_far ?_ NB240_248.out _;(with_reducible repeat (refine blk_alloc ?_ _));refine blk_far ?_ NB240_248.out _;(with_reducible repeat (refine blk_alloc ?_ _));exact BK240.out) hb);have n11_:=Aside0.mk (blk_below (g:=gb248) (o:=.cells #[.slice Ao39 t241.length co39,.slice Ao44 t244.length co44] 34 (0,0)) (by (with_reducible repeat (refine blk_alloc ?_ _));refine blk_put (cs:=#[.slice Ao39 t241.length co39,.slice none 0 0]) ?_ 1 _ rfl;(with_reducible repeat (refine blk_alloc ?_ _));refine blk_put (cs:=#[.slice none 0 0,.slice none 0 0]) ?_ 0 _ rfl;(with_reducible repeat (refine blk_alloc ?_ _));exact BK248.out) hb);have n12_:=Aside0.mk (below_step (by repeat (first|(with_reducible first|exact HB.out|apply below_alloc|refine below_set ?_ GE218.out|refine below_set ?_ GE233.out|refine below_set ?_ GE240.out|refine below_set ?_ GE248.out)|exact HB.out)) hb);clear HO222;clear HO225;clear HO228;clear HO231;clear HO236;clear HO239;clear HO243;clear HO246;clear BK218;clear BK233;clear BK240;clear BK248;clear HB;have HO222:=n0_;have HO225:=n1_;have HO228:=n2_;have HO231:=n3_;have HO236:=n4_;have HO239:=n5_;have HO243:=n6_;have HO246:=n7_;have BK218:=n8_;have BK233:=n9_;have BK240:=n10_;have BK248:=n11_;have HB:=n12_;clear n0_ n1_ n2_ n3_ n4_ n5_ n6_ n7_ n8_ n9_ n10_ n11_ n12_;(try clear hb);(try clear hb2);(try clear hk);(try clear hi)))
    go_meet
    case rel=>exact ⟨_,(true),(by first|rfl|(simp;done)|(simp [*];done)),H',⟨by first|omega|exact Nat.le_refl _⟩,⟨by (with_reducible repeat (first|apply Kd.R_alloc));exact Kd.R_mono HO228.out (fun _ hk=>⟨hk.1.1.2.2.1,⟨hk.1.1.2.2.2.1,⟨hk.1.1.2.2.2.2,⟨hk.1.2,hk.2⟩⟩⟩⟩)⟩,⟨by (with_reducible repeat (first|apply Kd.R_alloc));exact Kd.R_mono HO231.out (fun _ hk=>⟨hk.1.1.2.2.1,⟨hk.1.1.2.2.2.1,⟨hk.1.1.2.2.2.2,⟨hk.1.2,hk.2⟩⟩⟩⟩)⟩,⟨by (with_reducible repeat (first|apply Kd.R_alloc));exact Kd.R_mono HO236.out (fun _ hk=>⟨hk.1.1.2.2.1,⟨hk.1.1.2.2.2.1,⟨hk.1.1.2.2.2.2,⟨hk.1.2,hk.2⟩⟩⟩⟩)⟩,⟨by (with_reducible repeat (first|apply Kd.R_alloc));exact Kd.R_mono HO239.out (fun _ hk=>⟨hk.1.1.2.2.1,⟨hk.1.1.2.2.2.1,⟨hk.1.1.2.2.2.2,⟨hk.1.2,hk.2⟩⟩⟩⟩)⟩,⟨by (with_reducible repeat (first|apply Kd.R_alloc));exact Kd.R_mono HO243.out (fun _ hk=>⟨hk.1.1.1.2,⟨hk.1.1.2,⟨hk.1.2,⟨hk.2,hk.1.1.1.1.1.1⟩⟩⟩⟩)⟩,⟨by (with_reducible repeat (first|apply Kd.R_alloc));exact Kd.R_mono HO246.out (fun _ hk=>⟨hk.1.1.1.2,⟨hk.1.1.2,⟨hk.1.2,⟨hk.2,hk.1.1.1.1.1.1⟩⟩⟩⟩)⟩,⟨by (with_reducible repeat (refine blk_alloc ?_ _));exact BK218.out⟩,⟨by (with_reducible repeat (refine blk_alloc ?_ _));exact BK233.out⟩,⟨by (with_reducible repeat (refine blk_alloc ?_ _));exact BK240.out⟩,⟨by (with_reducible repeat (refine blk_alloc ?_ _));exact BK248.out⟩,⟨by repeat (first|(with_reducible first|exact HB.out|apply below_alloc|refine below_set ?_ GE218.out|refine below_set ?_ GE233.out|refine below_set ?_ GE240.out|refine below_set ?_ GE248.out)|exact HB.out)⟩⟩
  case rest =>
   clear HC13
   try clear c1
   try clear c2
   try clear p2
   try clear c3
   try clear c4
   try clear c5
   try clear c5b0
   try clear c6
   try clear c8
   try clear c13
   try clear c15
   try clear c18
   try clear c24
   try clear c27
   try clear c28
   try clear c31
   try clear c32
   try clear c40
   try clear c41
   try clear c42
   try clear c46
   try clear c47
   try clear c48
   try clear c49
   try clear c51
   try clear c52
   try clear c55
   try clear c56
   try clear c57
   try clear c59
   try clear c60
   try clear hcz15_0
   try clear hcz15_1
   try clear hcz17_0
   try clear hcz17_1
   try clear hcz25_0
   try clear hcz25_1
   try clear hcz27_0
   try clear hcz27_1
   try clear hcz33_0
   try clear hcz33_1
   try clear hcz36_0
   try clear hcz36_1
   try clear hcz43_0
   try clear hcz43_1
   try clear hcz50_0
   try clear hcz50_1
   try clear hcz53_0
   try clear hcz53_1
   try clear hcz58_0
   try clear hcz58_1
   try clear hcz61_0
   try clear hcz61_1
   try clear hcz7_0
   try clear hcz7_1
   try clear hfz15_0
   try clear hfz15_1
   try clear hfz17_0
   try clear hfz17_1
   try clear hfz25_0
   try clear hfz25_1
   try clear hfz27_0
   try clear hfz27_1
   try clear hfz33_0
   try clear hfz33_1
   try clear hfz36_0
   try clear hfz36_1
   try clear hfz43_0
   try clear hfz43_1
   try clear hfz50_0
   try clear hfz50_1
   try clear hfz53_0
   try clear hfz53_1
   try clear hfz58_0
   try clear hfz58_1
   try clear hfz61_0
   try clear hfz61_1
   try clear hfz7_0
   try clear hfz7_1
   obtain ⟨kq,x48_12,rfl,HA,HJ12,HO_234000,HO_234001,HO_241000,HO_241001,HO_249000,HO_249001,BK218,BK233,BK240,BK248,HB⟩:=hcut
   cases kq with
   | zero=>exact absurd HA.out (by simp [laws_FnExactCrashDisk.j0])
   | succ kj12 =>
    have H:=HA.out
    clear HA
    simp only [laws_FnExactCrashDisk.j0] at H
    by_cases c63:x48_12 = true
    ·subst c63
     have H1:(some false) = some r:=by rw [if_pos rfl] at H;exact H
     clear H
     have H:=H1
     clear H1
     obtain rfl:=Option.some.inj H
     go_wp2
     go_ret
     exact ⟨by first|rfl|(simp [errW_none,errW_some] <;> rfl)|(simp [*,errW_none,errW_some] <;> rfl),by repeat (first|(with_reducible first|exact HB.out|apply below_alloc|refine below_set ?_ GE218.out|refine below_set ?_ GE233.out|refine below_set ?_ GE240.out|refine below_set ?_ GE248.out)|exact HB.out)⟩
    ·replace c63:=Bool.eq_false_iff.mpr c63
     subst c63
     have H1:((laws_toDisk.f kj12 l0_0 l0_1).bind fun bt250=>((laws_eqDisk.f kj12 t234 t237 bt250.1 bt250.2).bind fun t256=>(if t256 = true then ((laws_markDisk.f kj12 t234 t237 1).bind fun bt257=>(if bt257.1 < 0 then (laws_FnExactCrashDisk.j1 kj12 a1 a2 t232 true l0_0 l0_1 t226 t229 t241 t244) else ((laws_eqDisk.f kj12 t241 t244 t226 t229).bind fun t260=>(if t260 = true then (laws_FnExactCrashDisk.j1 kj12 a1 a2 t232 (t247 != t232) l0_0 l0_1 t226 t229 t241 t244) else (laws_FnExactCrashDisk.j1 kj12 a1 a2 t232 true l0_0 l0_1 t226 t229 t241 t244))))) else (some false)))) = some r:=by rw [if_neg (show ¬ (false = true) by decide)] at H;exact H
     clear H
     have H:=H1
     clear H1
     replace H:=Option.bind_eq_some_iff.mp H
     obtain ⟨⟨t250,t253⟩,A640,H⟩:=H
     replace H:((laws_eqDisk.f kj12 t234 t237 t250 t253).bind fun t256=>(if t256 = true then ((laws_markDisk.f kj12 t234 t237 1).bind fun bt257=>(if bt257.1 < 0 then (laws_FnExactCrashDisk.j1 kj12 a1 a2 t232 true l0_0 l0_1 t226 t229 t241 t244) else ((laws_eqDisk.f kj12 t241 t244 t226 t229).bind fun t260=>(if t260 = true then (laws_FnExactCrashDisk.j1 kj12 a1 a2 t232 (t247 != t232) l0_0 l0_1 t226 t229 t241 t244) else (laws_FnExactCrashDisk.j1 kj12 a1 a2 t232 true l0_0 l0_1 t226 t229 t241 t244))))) else (some false))) = some r:=H
     have A64:=Aside0.mk A640
     clear A640
     replace H:=Option.bind_eq_some_iff.mp H
     obtain ⟨t256,A650,H⟩:=H
     replace H:(if t256 = true then ((laws_markDisk.f kj12 t234 t237 1).bind fun bt257=>(if bt257.1 < 0 then (laws_FnExactCrashDisk.j1 kj12 a1 a2 t232 true l0_0 l0_1 t226 t229 t241 t244) else ((laws_eqDisk.f kj12 t241 t244 t226 t229).bind fun t260=>(if t260 = true then (laws_FnExactCrashDisk.j1 kj12 a1 a2 t232 (t247 != t232) l0_0 l0_1 t226 t229 t241 t244) else (laws_FnExactCrashDisk.j1 kj12 a1 a2 t232 true l0_0 l0_1 t226 t229 t241 t244))))) else (some false)) = some r:=H
     have A65:=Aside0.mk A650
     clear A650
     by_cases c66:t256 = true
     ·subst c66
      have H1:((laws_markDisk.f kj12 t234 t237 1).bind fun bt257=>(if bt257.1 < 0 then (laws_FnExactCrashDisk.j1 kj12 a1 a2 t232 true l0_0 l0_1 t226 t229 t241 t244) else ((laws_eqDisk.f kj12 t241 t244 t226 t229).bind fun t260=>(if t260 = true then (laws_FnExactCrashDisk.j1 kj12 a1 a2 t232 (t247 != t232) l0_0 l0_1 t226 t229 t241 t244) else (laws_FnExactCrashDisk.j1 kj12 a1 a2 t232 true l0_0 l0_1 t226 t229 t241 t244))))) = some r:=by rw [if_pos rfl] at H;exact H
      clear H
      have H:=H1
      clear H1
      replace H:=Option.bind_eq_some_iff.mp H
      obtain ⟨⟨t257,t258,t259⟩,A670,H⟩:=H
      replace H:(if t257 < 0 then (laws_FnExactCrashDisk.j1 kj12 a1 a2 t232 true l0_0 l0_1 t226 t229 t241 t244) else ((laws_eqDisk.f kj12 t241 t244 t226 t229).bind fun t260=>(if t260 = true then (laws_FnExactCrashDisk.j1 kj12 a1 a2 t232 (t247 != t232) l0_0 l0_1 t226 t229 t241 t244) else (laws_FnExactCrashDisk.j1 kj12 a1 a2 t232 true l0_0 l0_1 t226 t229 t241 t244)))) = some r:=H
      have A67:=Aside0.mk A670
      clear A670
      have HC68:=Aside0.mk H
      clear H
      try go_wp2
      have n0_:=Aside0.mk (Kd.R_drew HO_234000.out)
      have n1_:=Aside0.mk (Kd.R_drew HO_234001.out)
      have n2_:=Aside0.mk (Kd.R_drew HO_241000.out)
      have n3_:=Aside0.mk (Kd.R_drew HO_241001.out)
      have n4_:=Aside0.mk (Kd.R_drew HO_249000.out)
      have n5_:=Aside0.mk (Kd.R_drew HO_249001.out)
      have n6_:=Aside0.mk (blk_drew BK218.out)
      have n7_:=Aside0.mk (blk_drew BK233.out)
      have n8_:=Aside0.mk (blk_drew BK240.out)
      have n9_:=Aside0.mk (blk_drew BK248.out)
      have n10_:=Aside0.mk (below_drew1 HB.out)
      clear HO_234000
      clear HO_234001
      clear HO_241000
      clear HO_241001
      clear HO_249000
      clear HO_249001
      clear BK218
      clear BK233
      clear BK240
      clear BK248
      clear HB
      have HO_234000:=n0_
      have HO_234001:=n1_
      have HO_241000:=n2_
      have HO_241001:=n3_
      have HO_249000:=n4_
      have HO_249001:=n5_
      have BK218:=n6_
      have BK233:=n7_
      have BK240:=n8_
      have BK248:=n9_
      have HB:=n10_
      clear n0_ n1_ n2_ n3_ n4_ n5_ n6_ n7_ n8_ n9_ n10_
      refine start_ (n:=5) (S:=fun w'=>w'.cell? ⟨gb240,0,none⟩ = some (.slice Ao30 t234.length co30) ∧ w'.cell? ⟨gb240,1,none⟩ = some (.slice Ao34 t237.length co34) ∧ w'.cell? ⟨gb218,0,none⟩ = some (.slice A0_0 l0_0.length c0_0) ∧ w'.cell? ⟨gb218,1,none⟩ = some (.slice A0_1 l0_1.length c0_1)) (ds:=[]) #[false,false,false,false,false] (by kernel_rfl) rfl rfl ⟨(blk_cell BK240.out 0).trans rfl,(blk_cell BK240.out 1).trans rfl,(blk_cell BK218.out 0).trans rfl,(blk_cell BK218.out 1).trans rfl⟩ (fun hHeld=>?_)
      generalize wc.drew = w69 at HO_234000 HO_234001 HO_241000 HO_241001 HO_249000 HO_249001 BK218 BK233 BK240 BK248 HB hHeld ⊢
      refine take_ (i:=0) (N:=some 49) (v:=?_) (a':=?_) #[true,false,false,false,false] rfl rfl (by kernel_rfl) (fun _ _ _ h=>h) (Or.inl ⟨by rfl,?_⟩) hHeld ?_ ?_
      rotate_left
      ·rintro w' ⟨s0,s1,s2,s3⟩
       go_simp
       with_reducible rfl
      rotate_left
      ·simp only [Act.put,List.setIfInBounds_toArray,List.set_cons_zero,List.set_cons_succ,i64_w,i32_w]
       rfl
      refine take_ (i:=1) (N:=some 50) (v:=?_) (a':=?_) #[true,true,false,false,false] rfl rfl (by kernel_rfl) (fun _ _ _ h=>h) (Or.inl ⟨by rfl,?_⟩) hHeld ?_ ?_
      rotate_left
      ·rintro w' ⟨s0,s1,s2,s3⟩
       go_simp
       with_reducible rfl
      rotate_left
      ·simp only [Act.put,List.setIfInBounds_toArray,List.set_cons_zero,List.set_cons_succ,i64_w,i32_w]
       rfl
      refine one_ (i:=2) (N:=some 51) #[true,true,true,false,false] rfl rfl (by kernel_rfl) (by decide) (fun K hK=>?_)
      refine goes_ Try.func15 (by kernel_rfl) rfl #[.agg #[.slice A0_0 l0_0.length c0_0,.slice A0_1 l0_1.length c0_1]] (by rfl) rfl rfl (by (try simp only [List.map_toArray,List.map_cons,List.map_nil]);first|done|rfl|(simp only [List.length_drop,List.length_take];rfl)) ?_
      with_reducible refine (laws_toDisk.calls kj12 _ _ l0_0 _ _ l0_1 t250 t253 _ ?side1 ?side2 ?side3 ?side4 A64.out).mono ?_
      (case side1=>repeat (first|exact (Kd.C_below HR0_0.out HB.out)|(with_reducible refine Kd.C_alloc ?_ _)))
      (case side2=>exact HC0_0.out)
      (case side3=>repeat (first|exact (Kd.C_below HR0_1.out HB.out)|(with_reducible refine Kd.C_alloc ?_ _)))
      (case side4=>exact HC0_1.out)
      rintro e w70 ⟨v251,v254,rfl,ho0,ho1,hb⟩
      refine ⟨_,rfl,?_⟩
      have n0_:=Aside0.mk (Kd.R_mono (Kd.R_told (Kd.R_told (Kd.R_old (by (with_reducible repeat (first|apply Kd.R_alloc));exact HO_234000.out) hb) (Kd.R_base ho0)) (Kd.R_base ho1)) (fun _ h_=>h_.1))
      have n1_:=Aside0.mk (Kd.R_mono (Kd.R_told (Kd.R_told (Kd.R_old (by (with_reducible repeat (first|apply Kd.R_alloc));exact HO_234001.out) hb) (Kd.R_base ho0)) (Kd.R_base ho1)) (fun _ h_=>h_.1))
      have n2_:=Aside0.mk (Kd.R_mono (Kd.R_told (Kd.R_told (Kd.R_old (by (with_reducible repeat (first|apply Kd.R_alloc));exact HO_241000.out) hb) (Kd.R_base ho0)) (Kd.R_base ho1)) (fun _ h_=>h_.1))
      have n3_:=Aside0.mk (Kd.R_mono (Kd.R_told (Kd.R_told (Kd.R_old (by (with_reducible repeat (first|apply Kd.R_alloc));exact HO_241001.out) hb) (Kd.R_base ho0)) (Kd.R_base ho1)) (fun _ h_=>h_.1))
      have n4_:=Aside0.mk (Kd.R_mono (Kd.R_told (Kd.R_told (Kd.R_old (by (with_reducible repeat (first|apply Kd.R_alloc));exact HO_249000.out) hb) (Kd.R_base ho0)) (Kd.R_base ho1)) (fun _ h_=>h_.1))
      have n5_:=Aside0.mk (Kd.R_mono (Kd.R_told (Kd.R_told (Kd.R_old (by (with_reducible repeat (first|apply Kd.R_alloc));exact HO_249001.out) hb) (Kd.R_base ho0)) (Kd.R_base ho1)) (fun _ h_=>h_.1))
      have n6_:=Aside0.mk (Kd.R_lower (Kd.R_new' (Kd.R_new' (Kd.R_new' (Kd.R_new' (Kd.R_new' (Kd.R_new' ho0 (Kd.R_lt (by (with_reducible repeat (first|apply Kd.R_alloc));exact HO_234000.out))) (Kd.R_lt (by (with_reducible repeat (first|apply Kd.R_alloc));exact HO_234001.out))) (Kd.R_lt (by (with_reducible repeat (first|apply Kd.R_alloc));exact HO_241000.out))) (Kd.R_lt (by (with_reducible repeat (first|apply Kd.R_alloc));exact HO_241001.out))) (Kd.R_lt (by (with_reducible repeat (first|apply Kd.R_alloc));exact HO_249000.out))) (Kd.R_lt (by (with_reducible repeat (first|apply Kd.R_alloc));exact HO_249001.out))) (below_size (by repeat (first|(with_reducible first|exact HB.out|apply below_alloc|refine below_set ?_ GE218.out|refine below_set ?_ GE233.out|refine below_set ?_ GE240.out|refine below_set ?_ GE248.out)|exact HB.out))))
      have n7_:=Aside0.mk (Kd.R_lower (Kd.R_new' (Kd.R_new' (Kd.R_new' (Kd.R_new' (Kd.R_new' (Kd.R_new' ho1 (Kd.R_lt (by (with_reducible repeat (first|apply Kd.R_alloc));exact HO_234000.out))) (Kd.R_lt (by (with_reducible repeat (first|apply Kd.R_alloc));exact HO_234001.out))) (Kd.R_lt (by (with_reducible repeat (first|apply Kd.R_alloc));exact HO_241000.out))) (Kd.R_lt (by (with_reducible repeat (first|apply Kd.R_alloc));exact HO_241001.out))) (Kd.R_lt (by (with_reducible repeat (first|apply Kd.R_alloc));exact HO_249000.out))) (Kd.R_lt (by (with_reducible repeat (first|apply Kd.R_alloc));exact HO_249001.out))) (below_size (by repeat (first|(with_reducible first|exact HB.out|apply below_alloc|refine below_set ?_ GE218.out|refine below_set ?_ GE233.out|refine below_set ?_ GE240.out|refine below_set ?_ GE248.out)|exact HB.out))))
      have n8_:=Aside0.mk (blk_below (g:=gb218) (o:=.cells #[.slice A0_0 l0_0.length c0_0,.slice A0_1 l0_1.length c0_1] 30 (0,0)) (by (with_reducible repeat (refine blk_alloc ?_ _));exact BK218.out) hb)
      have n9_:=Aside0.mk (blk_below (g:=gb233) (o:=.cells #[.slice Ao23 t226.length co23,.slice Ao26 t229.length co26] 34 (0,0)) (by (with_reducible repeat (refine blk_alloc ?_ _));exact BK233.out) hb)
      have n10_:=Aside0.mk (blk_below (g:=gb240) (o:=.cells #[.slice Ao30 t234.length co30,.slice Ao34 t237.length co34] 34 (0,0)) (by (with_reducible repeat (refine blk_alloc ?_ _));exact BK240.out) hb)
      have n11_:=Aside0.mk (blk_below (g:=gb248) (o:=.cells #[.slice Ao39 t241.length co39,.slice Ao44 t244.length co44] 34 (0,0)) (by (with_reducible repeat (refine blk_alloc ?_ _));exact BK248.out) hb)
      have n12_:=Aside0.mk (below_step (by repeat (first|(with_reducible first|exact HB.out|apply below_alloc|refine below_set ?_ GE218.out|refine below_set ?_ GE233.out|refine below_set ?_ GE240.out|refine below_set ?_ GE248.out)|exact HB.out)) hb)
      clear HO_234000
      clear HO_234001
      clear HO_241000
      clear HO_241001
      clear HO_249000
      clear HO_249001
      clear BK218
      clear BK233
      clear BK240
      clear BK248
      clear HB
      have HO_234000:=n0_
      have HO_234001:=n1_
      have HO_241000:=n2_
      have HO_241001:=n3_
      have HO_249000:=n4_
      have HO_249001:=n5_
      have HO252:=n6_
      have HO255:=n7_
      have BK218:=n8_
      have BK233:=n9_
      have BK240:=n10_
      have BK248:=n11_
      have HB:=n12_
      clear n0_ n1_ n2_ n3_ n4_ n5_ n6_ n7_ n8_ n9_ n10_ n11_ n12_
      (try clear hb)
      (try clear hb2)
      (try clear hk)
      (try clear hi)
      (try clear ho0)
      (try clear ho1)
      obtain ⟨Ao71,co71,eo71⟩:=Kd.R_slice HO252.out
      (first|subst eo71|(injection eo71 with f1_ f2_ f3_;have f4_:=f1_.symm;have f5_:=f3_.symm;clear f1_ f2_ f3_;subst f4_;subst f5_))
      obtain ⟨Ao72,co72,eo72⟩:=Kd.R_slice HO255.out
      (first|subst eo72|(injection eo72 with f1_ f2_ f3_;have f4_:=f1_.symm;have f5_:=f3_.symm;clear f1_ f2_ f3_;subst f4_;subst f5_))
      refine hK.out _ _ ⟨(blk_cell BK240.out 0).trans rfl,(blk_cell BK240.out 1).trans rfl,(blk_cell BK218.out 0).trans rfl,(blk_cell BK218.out 1).trans rfl⟩ (fun hHeld=>?_)
      clear hK K
      refine norm_ (a':=?_) ?_ ?_
      rotate_left
      ·show Act.put _ (some 51) _ = _
       simp only [Act.put,List.setIfInBounds_toArray,List.set_cons_zero,List.set_cons_succ,i64_w,i32_w]
       rfl
      refine one_ (i:=3) (N:=some 52) #[true,true,true,true,false] rfl rfl (by kernel_rfl) (by decide) (fun K hK=>?_)
      refine goes_ Try.func18 (by kernel_rfl) rfl #[.agg #[.slice Ao30 t234.length co30,.slice Ao34 t237.length co34],.agg #[.slice Ao71 t250.length co71,.slice Ao72 t253.length co72]] (by rfl) rfl rfl (by (try simp only [List.map_toArray,List.map_cons,List.map_nil]);first|done|rfl|(simp only [List.length_drop,List.length_take];rfl)) ?_
      with_reducible refine (laws_eqDisk.calls kj12 _ _ t234 _ _ t237 _ _ t250 _ _ t253 true _ ?side1 ?side2 ?side3 ?side4 ?side5 ?side6 ?side7 ?side8 A65.out).mono ?_
      (case side1=>repeat (first|exact (Kd.R_reads' HO_241000.out).2.2|(with_reducible refine Kd.C_alloc ?_ _)))
      (case side2=>exact (Kd.R_reads' HO_241000.out).2.1)
      (case side3=>repeat (first|exact (Kd.R_reads' HO_241001.out).2.2|(with_reducible refine Kd.C_alloc ?_ _)))
      (case side4=>exact (Kd.R_reads' HO_241001.out).2.1)
      (case side5=>repeat (first|exact (Kd.R_reads' HO252.out).2.2|(with_reducible refine Kd.C_alloc ?_ _)))
      (case side6=>exact (Kd.R_reads' HO252.out).2.1)
      (case side7=>repeat (first|exact (Kd.R_reads' HO255.out).2.2|(with_reducible refine Kd.C_alloc ?_ _)))
      (case side8=>exact (Kd.R_reads' HO255.out).2.1)
      rintro e w73 ⟨rfl,hb⟩
      refine ⟨_,rfl,?_⟩
      have n0_:=Aside0.mk (Kd.R_below (by (with_reducible repeat (first|apply Kd.R_alloc));exact HO_234000.out) hb)
      have n1_:=Aside0.mk (Kd.R_below (by (with_reducible repeat (first|apply Kd.R_alloc));exact HO_234001.out) hb)
      have n2_:=Aside0.mk (Kd.R_below (by (with_reducible repeat (first|apply Kd.R_alloc));exact HO_241000.out) hb)
      have n3_:=Aside0.mk (Kd.R_below (by (with_reducible repeat (first|apply Kd.R_alloc));exact HO_241001.out) hb)
      have n4_:=Aside0.mk (Kd.R_below (by (with_reducible repeat (first|apply Kd.R_alloc));exact HO_249000.out) hb)
      have n5_:=Aside0.mk (Kd.R_below (by (with_reducible repeat (first|apply Kd.R_alloc));exact HO_249001.out) hb)
      have n6_:=Aside0.mk (Kd.R_below (by (with_reducible repeat (first|apply Kd.R_alloc));exact HO252.out) hb)
      have n7_:=Aside0.mk (Kd.R_below (by (with_reducible repeat (first|apply Kd.R_alloc));exact HO255.out) hb)
      have n8_:=Aside0.mk (blk_below (g:=gb218) (o:=.cells #[.slice A0_0 l0_0.length c0_0,.slice A0_1 l0_1.length c0_1] 30 (0,0)) (by (with_reducible repeat (refine blk_alloc ?_ _));exact BK218.out) hb)
      have n9_:=Aside0.mk (blk_below (g:=gb233) (o:=.cells #[.slice Ao23 t226.length co23,.slice Ao26 t229.length co26] 34 (0,0)) (by (with_reducible repeat (refine blk_alloc ?_ _));exact BK233.out) hb)
      have n10_:=Aside0.mk (blk_below (g:=gb240) (o:=.cells #[.slice Ao30 t234.length co30,.slice Ao34 t237.length co34] 34 (0,0)) (by (with_reducible repeat (refine blk_alloc ?_ _));exact BK240.out) hb)
      have n11_:=Aside0.mk (blk_below (g:=gb248) (o:=.cells #[.slice Ao39 t241.length co39,.slice Ao44 t244.length co44] 34 (0,0)) (by (with_reducible repeat (refine blk_alloc ?_ _));exact BK248.out) hb)
      have n12_:=Aside0.mk (below_step (by repeat (first|(with_reducible first|exact HB.out|apply below_alloc|refine below_set ?_ GE218.out|refine below_set ?_ GE233.out|refine below_set ?_ GE240.out|refine below_set ?_ GE248.out)|exact HB.out)) hb)
      clear HO_234000
      clear HO_234001
      clear HO_241000
      clear HO_241001
      clear HO_249000
      clear HO_249001
      clear HO252
      clear HO255
      clear BK218
      clear BK233
      clear BK240
      clear BK248
      clear HB
      have HO_234000:=n0_
      have HO_234001:=n1_
      have HO_241000:=n2_
      have HO_241001:=n3_
      have HO_249000:=n4_
      have HO_249001:=n5_
      have HO252:=n6_
      have HO255:=n7_
      have BK218:=n8_
      have BK233:=n9_
      have BK240:=n10_
      have BK248:=n11_
      have HB:=n12_
      clear n0_ n1_ n2_ n3_ n4_ n5_ n6_ n7_ n8_ n9_ n10_ n11_ n12_
      (try clear hb)
      (try clear hb2)
      (try clear hk)
      (try clear hi)
      refine hK.out _ _ ⟨(blk_cell BK240.out 0).trans rfl,(blk_cell BK240.out 1).trans rfl,(blk_cell BK218.out 0).trans rfl,(blk_cell BK218.out 1).trans rfl⟩ (fun hHeld=>?_)
      clear hK K
      refine norm_ (a':=?_) ?_ ?_
      rotate_left
      ·show Act.put _ (some 52) _ = _
       simp only [Act.put,List.setIfInBounds_toArray,List.set_cons_zero,List.set_cons_succ,i64_w,i32_w]
       rfl
      refine pure_ (i:=4) (N:=some 53) (v:=?_) (a':=?_) #[true,true,true,true,true] rfl rfl (by kernel_rfl) (fun _ _ _ h=>h) (Or.inl ⟨by rfl,?_⟩) ?_ ?_
      rotate_left
      ·intro w'
       go_simp
       with_reducible rfl
      rotate_left
      ·simp only [Act.put,List.setIfInBounds_toArray,List.set_cons_zero,List.set_cons_succ,i64_w,i32_w]
       rfl
      refine done_ (by kernel_rfl) ?_
      have hnb74:=NB240_218.out
      have hnc74:=NB218_240.out
      have hnb75:=NB240_233.out
      have hnc75:=NB233_240.out
      have hnb76:=NB240_248.out
      have hnc76:=NB248_240.out
      have hcz77_0:w73.cell? ⟨gb240,0,none⟩ = some (.slice Ao30 t234.length co30):=(blk_cell BK240.out 0).trans rfl
      have hcz77_1:w73.cell? ⟨gb240,1,none⟩ = some (.slice Ao34 t237.length co34):=(blk_cell BK240.out 1).trans rfl
      have hfz77_0:=blk_frozen BK240.out 0
      have hfz77_1:=blk_frozen BK240.out 1
      go_upto_region 14 with (first|((with_reducible refine gate_callee (f:=19) rfl ?_);refine goesL_ (some 56) rfl rfl Try.func19 (by kernel_rfl) rfl #[.agg #[.slice Ao30 t234.length co30,.slice Ao34 t237.length co34],.int .i64 1] rfl (by (try simp only [List.map_toArray,List.map_cons,List.map_nil]);first|done|rfl|(simp only [List.length_drop,List.length_take];rfl)) ?_;(with_reducible refine (laws_markDisk.calls kj12 (fun k_=>some k_ = (.slice Ao30 t234.length co30:Value).ownBlock) (.slice Ao30 t234.length co30) t234 (fun k_=>some k_ = (.slice Ao34 t237.length co34:Value).ownBlock) (.slice Ao34 t237.length co34) t237 1 t257 t258 t259 w _ ?side1 ?side2 ?side3 ?side4 ?side5 A67.out).mono ?_);(case side1=>repeat (first|(with_reducible first|exact HB.out|apply below_alloc|refine below_set ?_ GE218.out|refine below_set ?_ GE233.out|refine below_set ?_ GE240.out|refine below_set ?_ GE248.out)|exact HB.out));(case side2=>exact Kd.R_tight rfl HO_241000.out);(case side3=>exact fun k_ e_=>(HO_241000.out.1 k_ e_.symm).1.1.2.2.1);(case side4=>exact Kd.R_tight rfl HO_241001.out);(case side5=>exact fun k_ e_=>(HO_241001.out.1 k_ e_.symm).1.1.2.2.1);rintro e w78 ⟨rfl,hy0,hy1,hb,hkp⟩;refine ⟨_,rfl,?_⟩;have n0_:=Aside0.mk (Kd.R_mono (ok':=fun k_=>some k_ ≠ (.slice Ao26 t229.length co26:Value).ownBlock ∧ some k_ ≠ (.slice Ao30 t234.length co30:Value).ownBlock ∧ some k_ ≠ (.slice Ao34 t237.length co34:Value).ownBlock ∧ some k_ ≠ (.slice Ao39 t241.length co39:Value).ownBlock ∧ some k_ ≠ (.slice Ao44 t244.length co44:Value).ownBlock ∧ some k_ ≠ (.slice Ao71 t250.length co71:Value).ownBlock ∧ some k_ ≠ (.slice Ao72 t253.length co72:Value).ownBlock) (Kd.R_keptB (HO_234000.out) hkp (fun k_ hk_ hs_=>Or.elim hs_ (fun e_=>(hk_.1.1.2.1) e_) (fun e_=>(hk_.1.1.2.2.1) e_))) (fun k_ hk_=>⟨hk_.1.1.1.1,hk_.1.1.1.2.1,hk_.1.1.1.2.2.1,hk_.1.1.1.2.2.2.1,hk_.1.1.1.2.2.2.2,hk_.1.1.2,hk_.1.2⟩));have n1_:=Aside0.mk (Kd.R_mono (ok':=fun k_=>some k_ ≠ (.slice Ao23 t226.length co23:Value).ownBlock ∧ some k_ ≠ (.slice Ao30 t234.length co30:Value).ownBlock ∧ some k_ ≠ (.slice Ao34 t237.length co34:Value).ownBlock ∧ some k_ ≠ (.slice Ao39 t241.length co39:Value).ownBlock ∧ some k_ ≠ (.slice Ao44 t244.length co44:Value).ownBlock ∧ some k_ ≠ (.slice Ao71 t250.length co71:Value).ownBlock ∧ some k_ ≠ (.slice Ao72 t253.length co72:Value).ownBlock) (Kd.R_keptB (HO_234001.out) hkp (fun k_ hk_ hs_=>Or.elim hs_ (fun e_=>(hk_.1.1.2.1) e_) (fun e_=>(hk_.1.1.2.2.1) e_))) (fun k_ hk_=>⟨hk_.1.1.1.1,hk_.1.1.1.2.1,hk_.1.1.1.2.2.1,hk_.1.1.1.2.2.2.1,hk_.1.1.1.2.2.2.2,hk_.1.1.2,hk_.1.2⟩));have n2_:=Aside0.mk (Kd.R_reok rfl hy0 (fun k_ e_=>HO_241000.out.1 k_ e_));have n3_:=Aside0.mk (Kd.R_reok rfl hy1 (fun k_ e_=>HO_241001.out.1 k_ e_));have n4_:=Aside0.mk (Kd.R_mono (ok':=fun k_=>some k_ ≠ (.slice Ao23 t226.length co23:Value).ownBlock ∧ some k_ ≠ (.slice Ao26 t229.length co26:Value).ownBlock ∧ some k_ ≠ (.slice Ao30 t234.length co30:Value).ownBlock ∧ some k_ ≠ (.slice Ao34 t237.length co34:Value).ownBlock ∧ some k_ ≠ (.slice Ao44 t244.length co44:Value).ownBlock ∧ some k_ ≠ (.slice Ao71 t250.length co71:Value).ownBlock ∧ some k_ ≠ (.slice Ao72 t253.length co72:Value).ownBlock) (Kd.R_keptB (HO_249000.out) hkp (fun k_ hk_ hs_=>Or.elim hs_ (fun e_=>(hk_.1.1.2.2.1) e_) (fun e_=>(hk_.1.1.2.2.2.1) e_))) (fun k_ hk_=>⟨hk_.1.1.1.1,hk_.1.1.1.2.1,hk_.1.1.1.2.2.1,hk_.1.1.1.2.2.2.1,hk_.1.1.1.2.2.2.2,hk_.1.1.2,hk_.1.2⟩));have n5_:=Aside0.mk (Kd.R_mono (ok':=fun k_=>some k_ ≠ (.slice Ao23 t226.length co23:Value).ownBlock ∧ some k_ ≠ (.slice Ao26 t229.length co26:Value).ownBlock ∧ some k_ ≠ (.slice Ao30 t234.length co30:Value).ownBlock ∧ some k_ ≠ (.slice Ao34 t237.length co34:Value).ownBlock ∧ some k_ ≠ (.slice Ao39 t241.length co39:Value).ownBlock ∧ some k_ ≠ (.slice Ao71 t250.length co71:Value).ownBlock ∧ some k_ ≠ (.slice Ao72 t253.length co72:Value).ownBlock) (Kd.R_keptB (HO_249001.out) hkp (fun k_ hk_ hs_=>Or.elim hs_ (fun e_=>(hk_.1.1.2.2.1) e_) (fun e_=>(hk_.1.1.2.2.2.1) e_))) (fun k_ hk_=>⟨hk_.1.1.1.1,hk_.1.1.1.2.1,hk_.1.1.1.2.2.1,hk_.1.1.1.2.2.2.1,hk_.1.1.1.2.2.2.2,hk_.1.1.2,hk_.1.2⟩));have n6_:=Aside0.mk (blk_kept (by (with_reducible repeat (refine blk_alloc ?_ _));exact BK218.out) hkp (fun hs_=>Or.elim hs_ (fun e_=>(fun e_=>(Kd.R_ne HO_241000.out BK218.out (by decide)) e_) e_) (fun e_=>(fun e_=>(Kd.R_ne HO_241001.out BK218.out (by decide)) e_) e_)));have n7_:=Aside0.mk (blk_kept (by (with_reducible repeat (refine blk_alloc ?_ _));exact BK233.out) hkp (fun hs_=>Or.elim hs_ (fun e_=>(fun e_=>(Kd.R_ne HO_241000.out BK233.out (by decide)) e_) e_) (fun e_=>(fun e_=>(Kd.R_ne HO_241001.out BK233.out (by decide)) e_) e_)));have n8_:=Aside0.mk (blk_kept (by (with_reducible repeat (refine blk_alloc ?_ _));exact BK240.out) hkp (fun hs_=>Or.elim hs_ (fun e_=>(fun e_=>(Kd.R_ne HO_241000.out BK240.out (by decide)) e_) e_) (fun e_=>(fun e_=>(Kd.R_ne HO_241001.out BK240.out (by decide)) e_) e_)));have n9_:=Aside0.mk (blk_kept (by (with_reducible repeat (refine blk_alloc ?_ _));exact BK248.out) hkp (fun hs_=>Or.elim hs_ (fun e_=>(fun e_=>(Kd.R_ne HO_241000.out BK248.out (by decide)) e_) e_) (fun e_=>(fun e_=>(Kd.R_ne HO_241001.out BK248.out (by decide)) e_) e_)));have n10_:=Aside0.mk (Kd.R_mono (ok':=fun k_=>some k_ ≠ (.slice Ao23 t226.length co23:Value).ownBlock ∧ some k_ ≠ (.slice Ao26 t229.length co26:Value).ownBlock ∧ some k_ ≠ (.slice Ao30 t234.length co30:Value).ownBlock ∧ some k_ ≠ (.slice Ao34 t237.length co34:Value).ownBlock ∧ some k_ ≠ (.slice Ao39 t241.length co39:Value).ownBlock ∧ some k_ ≠ (.slice Ao44 t244.length co44:Value).ownBlock ∧ some k_ ≠ (.slice Ao72 t253.length co72:Value).ownBlock) (Kd.R_keptB (HO252.out) hkp (fun k_ hk_ hs_=>Or.elim hs_ (fun e_=>(hk_.1.1.1.2) e_) (fun e_=>(hk_.1.1.2) e_))) (fun k_ hk_=>⟨hk_.1.1.1.1.1.1.2,hk_.1.1.1.1.1.2,hk_.1.1.1.1.2,hk_.1.1.1.2,hk_.1.1.2,hk_.1.2,hk_.1.1.1.1.1.1.1⟩));have n11_:=Aside0.mk (Kd.R_mono (ok':=fun k_=>some k_ ≠ (.slice Ao23 t226.length co23:Value).ownBlock ∧ some k_ ≠ (.slice Ao26 t229.length co26:Value).ownBlock ∧ some k_ ≠ (.slice Ao30 t234.length co30:Value).ownBlock ∧ some k_ ≠ (.slice Ao34 t237.length co34:Value).ownBlock ∧ some k_ ≠ (.slice Ao39 t241.length co39:Value).ownBlock ∧ some k_ ≠ (.slice Ao44 t244.length co44:Value).ownBlock ∧ some k_ ≠ (.slice Ao71 t250.length co71:Value).ownBlock) (Kd.R_keptB (HO255.out) hkp (fun k_ hk_ hs_=>Or.elim hs_ (fun e_=>(hk_.1.1.1.2) e_) (fun e_=>(hk_.1.1.2) e_))) (fun k_ hk_=>⟨hk_.1.1.1.1.1.1.2,hk_.1.1.1.1.1.2,hk_.1.1.1.1.2,hk_.1.1.1.2,hk_.1.1.2,hk_.1.2,hk_.1.1.1.1.1.1.1⟩));have n12_:=Aside0.mk (hb);clear HO_234000;clear HO_234001;clear HO_241000;clear HO_241001;clear HO_249000;clear HO_249001;clear BK218;clear BK233;clear BK240;clear BK248;clear HO252;clear HO255;clear HB;have HO_234000:=n0_;have HO_234001:=n1_;have HO_241000:=n2_;have HO_241001:=n3_;have HO_249000:=n4_;have HO_249001:=n5_;have BK218:=n6_;have BK233:=n7_;have BK240:=n8_;have BK248:=n9_;have HO252:=n10_;have HO255:=n11_;have HB:=n12_;clear n0_ n1_ n2_ n3_ n4_ n5_ n6_ n7_ n8_ n9_ n10_ n11_ n12_;(try clear hb);(try clear hkp);(try clear hy0);(try clear hy1)))
      (try simp only [Act.put,List.setIfInBounds_toArray,List.set_cons_zero,List.set_cons_succ])
      go_cut [69] (fun v69 wc=>∃ (kq:Nat) (x69_67:Bool),v69 = .bool x69_67 ∧ Aside0 (laws_FnExactCrashDisk.j1 kq a1 a2 t232 x69_67 l0_0 l0_1 t226 t229 t241 t244 = some r) ∧ Aside0 (kq ≤ kj12) ∧ Aside0 (Kd.R Kd.string 9 wc w.heap.size (fun k_=>some k_ ≠ ((.slice Ao26 t229.length co26):Value).ownBlock ∧ some k_ ≠ ((.slice Ao30 t234.length co30):Value).ownBlock ∧ some k_ ≠ ((.slice Ao34 t237.length co34):Value).ownBlock ∧ some k_ ≠ ((.slice Ao39 t241.length co39):Value).ownBlock ∧ some k_ ≠ ((.slice Ao44 t244.length co44):Value).ownBlock) (.slice Ao23 t226.length co23) t226) ∧ Aside0 (Kd.R Kd.string 9 wc w.heap.size (fun k_=>some k_ ≠ ((.slice Ao23 t226.length co23):Value).ownBlock ∧ some k_ ≠ ((.slice Ao30 t234.length co30):Value).ownBlock ∧ some k_ ≠ ((.slice Ao34 t237.length co34):Value).ownBlock ∧ some k_ ≠ ((.slice Ao39 t241.length co39):Value).ownBlock ∧ some k_ ≠ ((.slice Ao44 t244.length co44):Value).ownBlock) (.slice Ao26 t229.length co26) t229) ∧ Aside0 (Kd.R Kd.string 9 wc w.heap.size (fun k_=>some k_ ≠ ((.slice Ao23 t226.length co23):Value).ownBlock ∧ some k_ ≠ ((.slice Ao26 t229.length co26):Value).ownBlock ∧ some k_ ≠ ((.slice Ao34 t237.length co34):Value).ownBlock ∧ some k_ ≠ ((.slice Ao39 t241.length co39):Value).ownBlock ∧ some k_ ≠ ((.slice Ao44 t244.length co44):Value).ownBlock) (.slice Ao30 t234.length co30) t258) ∧ Aside0 (Kd.R Kd.string 9 wc w.heap.size (fun k_=>some k_ ≠ ((.slice Ao23 t226.length co23):Value).ownBlock ∧ some k_ ≠ ((.slice Ao26 t229.length co26):Value).ownBlock ∧ some k_ ≠ ((.slice Ao30 t234.length co30):Value).ownBlock ∧ some k_ ≠ ((.slice Ao39 t241.length co39):Value).ownBlock ∧ some k_ ≠ ((.slice Ao44 t244.length co44):Value).ownBlock) (.slice Ao34 t237.length co34) t259) ∧ Aside0 (Kd.R Kd.string 9 wc w.heap.size (fun k_=>some k_ ≠ ((.slice Ao23 t226.length co23):Value).ownBlock ∧ some k_ ≠ ((.slice Ao26 t229.length co26):Value).ownBlock ∧ some k_ ≠ ((.slice Ao30 t234.length co30):Value).ownBlock ∧ some k_ ≠ ((.slice Ao34 t237.length co34):Value).ownBlock ∧ some k_ ≠ ((.slice Ao44 t244.length co44):Value).ownBlock) (.slice Ao39 t241.length co39) t241) ∧ Aside0 (Kd.R Kd.string 9 wc w.heap.size (fun k_=>some k_ ≠ ((.slice Ao23 t226.length co23):Value).ownBlock ∧ some k_ ≠ ((.slice Ao26 t229.length co26):Value).ownBlock ∧ some k_ ≠ ((.slice Ao30 t234.length co30):Value).ownBlock ∧ some k_ ≠ ((.slice Ao34 t237.length co34):Value).ownBlock ∧ some k_ ≠ ((.slice Ao39 t241.length co39):Value).ownBlock) (.slice Ao44 t244.length co44) t244) ∧ Aside0 (wc.heap[gb218]? = some (.cells #[(.slice A0_0 l0_0.length c0_0),(.slice A0_1 l0_1.length c0_1)] 30 (0,0))) ∧ Aside0 (wc.heap[gb233]? = some (.cells #[(.slice Ao23 t226.length co23),(.slice Ao26 t229.length co26)] 34 (0,0))) ∧ Aside0 (wc.heap[gb240]? = some (.cells #[(.slice Ao30 t234.length co30),(.slice Ao34 t237.length co34)] 34 (0,0))) ∧ Aside0 (wc.heap[gb248]? = some (.cells #[(.slice Ao39 t241.length co39),(.slice Ao44 t244.length co44)] 34 (0,0))) ∧ Aside0 (Below w.heap.size w wc))
      case first =>
       have H:=HC68.out
       clear HC68
       by_cases c79:t257 < 0
       ·rw [if_pos c79] at H
        have c79b0:decide (t257 < 0) = true:=decide_eq_true c79
        clear c79
        (first|rw [c79b0]|(simp only [i64_w,i32_w];rw [c79b0])|skip)
        have H':=Aside0.mk H
        clear H
        go_wp2
        go_meet
        case rel=>exact ⟨_,(true),(by first|rfl|(simp;done)|(simp [*];done)),H',⟨by have:=HJ12.out;first|omega|exact Nat.le_refl _⟩,⟨by (with_reducible repeat (first|apply Kd.R_alloc));exact Kd.R_mono HO_234000.out (fun _ hk=>⟨hk.1,⟨hk.2.1,⟨hk.2.2.1,⟨hk.2.2.2.1,hk.2.2.2.2.1⟩⟩⟩⟩)⟩,⟨by (with_reducible repeat (first|apply Kd.R_alloc));exact Kd.R_mono HO_234001.out (fun _ hk=>⟨hk.1,⟨hk.2.1,⟨hk.2.2.1,⟨hk.2.2.2.1,hk.2.2.2.2.1⟩⟩⟩⟩)⟩,⟨by (with_reducible repeat (first|apply Kd.R_alloc));exact Kd.R_mono HO_241000.out (fun _ hk=>⟨hk.1.1.1,⟨hk.1.1.2.1,⟨hk.1.1.2.2.1,⟨hk.1.1.2.2.2.1,hk.1.1.2.2.2.2⟩⟩⟩⟩)⟩,⟨by (with_reducible repeat (first|apply Kd.R_alloc));exact Kd.R_mono HO_241001.out (fun _ hk=>⟨hk.1.1.1,⟨hk.1.1.2.1,⟨hk.1.1.2.2.1,⟨hk.1.1.2.2.2.1,hk.1.1.2.2.2.2⟩⟩⟩⟩)⟩,⟨by (with_reducible repeat (first|apply Kd.R_alloc));exact Kd.R_mono HO_249000.out (fun _ hk=>⟨hk.1,⟨hk.2.1,⟨hk.2.2.1,⟨hk.2.2.2.1,hk.2.2.2.2.1⟩⟩⟩⟩)⟩,⟨by (with_reducible repeat (first|apply Kd.R_alloc));exact Kd.R_mono HO_249001.out (fun _ hk=>⟨hk.1,⟨hk.2.1,⟨hk.2.2.1,⟨hk.2.2.2.1,hk.2.2.2.2.1⟩⟩⟩⟩)⟩,⟨by (with_reducible repeat (refine blk_alloc ?_ _));exact BK218.out⟩,⟨by (with_reducible repeat (refine blk_alloc ?_ _));exact BK233.out⟩,⟨by (with_reducible repeat (refine blk_alloc ?_ _));exact BK240.out⟩,⟨by (with_reducible repeat (refine blk_alloc ?_ _));exact BK248.out⟩,⟨by repeat (first|(with_reducible first|exact HB.out|apply below_alloc|refine below_set ?_ GE218.out|refine below_set ?_ GE233.out|refine below_set ?_ GE240.out|refine below_set ?_ GE248.out)|exact HB.out)⟩⟩
       ·rw [if_neg c79] at H
        have c79b0:decide (t257 < 0) = false:=decide_eq_false c79
        clear c79
        (first|rw [c79b0]|(simp only [i64_w,i32_w];rw [c79b0])|skip)
        replace H:=Option.bind_eq_some_iff.mp H
        obtain ⟨t260,A800,H⟩:=H
        replace H:(if t260 = true then (laws_FnExactCrashDisk.j1 kj12 a1 a2 t232 (t247 != t232) l0_0 l0_1 t226 t229 t241 t244) else (laws_FnExactCrashDisk.j1 kj12 a1 a2 t232 true l0_0 l0_1 t226 t229 t241 t244)) = some r:=H
        have A80:=Aside0.mk A800
        clear A800
        by_cases c81:t260 = true
        ·subst c81
         have H1:(laws_FnExactCrashDisk.j1 kj12 a1 a2 t232 (t247 != t232) l0_0 l0_1 t226 t229 t241 t244) = some r:=by rw [if_pos rfl] at H;exact H
         clear H
         have H:=H1
         clear H1
         have H':=Aside0.mk H
         clear H
         have hnb82:=NB248_218.out
         have hnc82:=NB218_248.out
         have hnb83:=NB248_233.out
         have hnc83:=NB233_248.out
         have hnb84:=NB248_240.out
         have hnc84:=NB240_248.out
         have hcz85_0:w78.cell? ⟨gb248,0,none⟩ = some (.slice Ao39 t241.length co39):=(blk_cell BK248.out 0).trans rfl
         have hcz85_1:w78.cell? ⟨gb248,1,none⟩ = some (.slice Ao44 t244.length co44):=(blk_cell BK248.out 1).trans rfl
         have hfz85_0:=blk_frozen BK248.out 0
         have hfz85_1:=blk_frozen BK248.out 1
         have hnb86:=NB233_218.out
         have hnc86:=NB218_233.out
         have hnb87:=NB233_240.out
         have hnc87:=NB240_233.out
         have hcz88_0:w78.cell? ⟨gb233,0,none⟩ = some (.slice Ao23 t226.length co23):=(blk_cell BK233.out 0).trans rfl
         have hcz88_1:w78.cell? ⟨gb233,1,none⟩ = some (.slice Ao26 t229.length co26):=(blk_cell BK233.out 1).trans rfl
         have hfz88_0:=blk_frozen BK233.out 0
         have hfz88_1:=blk_frozen BK233.out 1
         go_wp2_with (first|(go_at_call 18;(with_reducible refine (laws_eqDisk.calls kj12 _ _ t241 _ _ t244 _ _ t226 _ _ t229 true _ ?side1 ?side2 ?side3 ?side4 ?side5 ?side6 ?side7 ?side8 A80.out).mono ?_);(case side1=>repeat (first|exact (Kd.R_reads' HO_249000.out).2.2|(with_reducible refine Kd.C_alloc ?_ _)));(case side2=>exact (Kd.R_reads' HO_249000.out).2.1);(case side3=>repeat (first|exact (Kd.R_reads' HO_249001.out).2.2|(with_reducible refine Kd.C_alloc ?_ _)));(case side4=>exact (Kd.R_reads' HO_249001.out).2.1);(case side5=>repeat (first|exact (Kd.R_reads' HO_234000.out).2.2|(with_reducible refine Kd.C_alloc ?_ _)));(case side6=>exact (Kd.R_reads' HO_234000.out).2.1);(case side7=>repeat (first|exact (Kd.R_reads' HO_234001.out).2.2|(with_reducible refine Kd.C_alloc ?_ _)));(case side8=>exact (Kd.R_reads' HO_234001.out).2.1);rintro e w89 ⟨rfl,hb⟩;have n0_:=Aside0.mk (Kd.R_below (by (with_reducible repeat (first|apply Kd.R_alloc));exact HO_234000.out) hb);have n1_:=Aside0.mk (Kd.R_below (by (with_reducible repeat (first|apply Kd.R_alloc));exact HO_234001.out) hb);have n2_:=Aside0.mk (Kd.R_below (by (with_reducible repeat (first|apply Kd.R_alloc));exact HO_241000.out) hb);have n3_:=Aside0.mk (Kd.R_below (by (with_reducible repeat (first|apply Kd.R_alloc));exact HO_241001.out) hb);have n4_:=Aside0.mk (Kd.R_below (by (with_reducible repeat (first|apply Kd.R_alloc));exact HO_249000.out) hb);have n5_:=Aside0.mk (Kd.R_below (by (with_reducible repeat (first|apply Kd.R_alloc));exact HO_249001.out) hb);have n6_:=Aside0.mk (Kd.R_below (by (with_reducible repeat (first|apply Kd.R_alloc));exact HO252.out) hb);have n7_:=Aside0.mk (Kd.R_below (by (with_reducible repeat (first|apply Kd.R_alloc));exact HO255.out) hb);have n8_:=Aside0.mk (blk_below (g:=gb218) (o:=.cells #[.slice A0_0 l0_0.length c0_0,.slice A0_1 l0_1.length c0_1] 30 (0,0)) (by (with_reducible repeat (refine blk_alloc ?_ _));exact BK218.out) hb);have n9_:=Aside0.mk (blk_below (g:=gb233) (o:=.cells #[.slice Ao23 t226.length co23,.slice Ao26 t229.length co26] 34 (0,0)) (by (with_reducible repeat (refine blk_alloc ?_ _));exact BK233.out) hb);have n10_:=Aside0.mk (blk_below (g:=gb240) (o:=.cells #[.slice Ao30 t234.length co30,.slice Ao34 t237.length co34] 34 (0,0)) (by (with_reducible repeat (refine blk_alloc ?_ _));exact BK240.out) hb);have n11_:=Aside0.mk (blk_below (g:=gb248) (o:=.cells #[.slice Ao39 t241.length co39,.slice Ao44 t244.length co44] 34 (0,0)) (by (with_reducible repeat (refine blk_alloc ?_ _));exact BK248.out) hb);have n12_:=Aside0.mk (below_step (by repeat (first|(with_reducible first|exact HB.out|apply below_alloc|refine below_set ?_ GE218.out|refine below_set ?_ GE233.out|refine below_set ?_ GE240.out|refine below_set ?_ GE248.out)|exact HB.out)) hb);clear HO_234000;clear HO_234001;clear HO_241000;clear HO_241001;clear HO_249000;clear HO_249001;clear HO252;clear HO255;clear BK218;clear BK233;clear BK240;clear BK248;clear HB;have HO_234000:=n0_;have HO_234001:=n1_;have HO_241000:=n2_;have HO_241001:=n3_;have HO_249000:=n4_;have HO_249001:=n5_;have HO252:=n6_;have HO255:=n7_;have BK218:=n8_;have BK233:=n9_;have BK240:=n10_;have BK248:=n11_;have HB:=n12_;clear n0_ n1_ n2_ n3_ n4_ n5_ n6_ n7_ n8_ n9_ n10_ n11_ n12_;(try clear hb);(try clear hb2);(try clear hk);(try clear hi)))
         go_meet
         case rel=>exact ⟨_,((t247 != t232)),(by first|rfl|(simp;done)|(simp [*];done)),H',⟨by have:=HJ12.out;first|omega|exact Nat.le_refl _⟩,⟨by (with_reducible repeat (first|apply Kd.R_alloc));exact Kd.R_mono HO_234000.out (fun _ hk=>⟨hk.1,⟨hk.2.1,⟨hk.2.2.1,⟨hk.2.2.2.1,hk.2.2.2.2.1⟩⟩⟩⟩)⟩,⟨by (with_reducible repeat (first|apply Kd.R_alloc));exact Kd.R_mono HO_234001.out (fun _ hk=>⟨hk.1,⟨hk.2.1,⟨hk.2.2.1,⟨hk.2.2.2.1,hk.2.2.2.2.1⟩⟩⟩⟩)⟩,⟨by (with_reducible repeat (first|apply Kd.R_alloc));exact Kd.R_mono HO_241000.out (fun _ hk=>⟨hk.1.1.1,⟨hk.1.1.2.1,⟨hk.1.1.2.2.1,⟨hk.1.1.2.2.2.1,hk.1.1.2.2.2.2⟩⟩⟩⟩)⟩,⟨by (with_reducible repeat (first|apply Kd.R_alloc));exact Kd.R_mono HO_241001.out (fun _ hk=>⟨hk.1.1.1,⟨hk.1.1.2.1,⟨hk.1.1.2.2.1,⟨hk.1.1.2.2.2.1,hk.1.1.2.2.2.2⟩⟩⟩⟩)⟩,⟨by (with_reducible repeat (first|apply Kd.R_alloc));exact Kd.R_mono HO_249000.out (fun _ hk=>⟨hk.1,⟨hk.2.1,⟨hk.2.2.1,⟨hk.2.2.2.1,hk.2.2.2.2.1⟩⟩⟩⟩)⟩,⟨by (with_reducible repeat (first|apply Kd.R_alloc));exact Kd.R_mono HO_249001.out (fun _ hk=>⟨hk.1,⟨hk.2.1,⟨hk.2.2.1,⟨hk.2.2.2.1,hk.2.2.2.2.1⟩⟩⟩⟩)⟩,⟨by (with_reducible repeat (refine blk_alloc ?_ _));exact BK218.out⟩,⟨by (with_reducible repeat (refine blk_alloc ?_ _));exact BK233.out⟩,⟨by (with_reducible repeat (refine blk_alloc ?_ _));exact BK240.out⟩,⟨by (with_reducible repeat (refine blk_alloc ?_ _));exact BK248.out⟩,⟨by repeat (first|(with_reducible first|exact HB.out|apply below_alloc|refine below_set ?_ GE218.out|refine below_set ?_ GE233.out|refine below_set ?_ GE240.out|refine below_set ?_ GE248.out)|exact HB.out)⟩⟩
        ·replace c81:=Bool.eq_false_iff.mpr c81
         subst c81
         have H1:(laws_FnExactCrashDisk.j1 kj12 a1 a2 t232 true l0_0 l0_1 t226 t229 t241 t244) = some r:=by rw [if_neg (show ¬ (false = true) by decide)] at H;exact H
         clear H
         have H:=H1
         clear H1
         have H':=Aside0.mk H
         clear H
         have hnb90:=NB248_218.out
         have hnc90:=NB218_248.out
         have hnb91:=NB248_233.out
         have hnc91:=NB233_248.out
         have hnb92:=NB248_240.out
         have hnc92:=NB240_248.out
         have hcz93_0:w78.cell? ⟨gb248,0,none⟩ = some (.slice Ao39 t241.length co39):=(blk_cell BK248.out 0).trans rfl
         have hcz93_1:w78.cell? ⟨gb248,1,none⟩ = some (.slice Ao44 t244.length co44):=(blk_cell BK248.out 1).trans rfl
         have hfz93_0:=blk_frozen BK248.out 0
         have hfz93_1:=blk_frozen BK248.out 1
         have hnb94:=NB233_218.out
         have hnc94:=NB218_233.out
         have hnb95:=NB233_240.out
         have hnc95:=NB240_233.out
         have hcz96_0:w78.cell? ⟨gb233,0,none⟩ = some (.slice Ao23 t226.length co23):=(blk_cell BK233.out 0).trans rfl
         have hcz96_1:w78.cell? ⟨gb233,1,none⟩ = some (.slice Ao26 t229.length co26):=(blk_cell BK233.out 1).trans rfl
         have hfz96_0:=blk_frozen BK233.out 0
         have hfz96_1:=blk_frozen BK233.out 1
         go_wp2_with (first|(go_at_call 18;(with_reducible refine (laws_eqDisk.calls kj12 _ _ t241 _ _ t244 _ _ t226 _ _ t229 false _ ?side1 ?side2 ?side3 ?side4 ?side5 ?side6 ?side7 ?side8 A80.out).mono ?_);(case side1=>repeat (first|exact (Kd.R_reads' HO_249000.out).2.2|(with_reducible refine Kd.C_alloc ?_ _)));(case side2=>exact (Kd.R_reads' HO_249000.out).2.1);(case side3=>repeat (first|exact (Kd.R_reads' HO_249001.out).2.2|(with_reducible refine Kd.C_alloc ?_ _)));(case side4=>exact (Kd.R_reads' HO_249001.out).2.1);(case side5=>repeat (first|exact (Kd.R_reads' HO_234000.out).2.2|(with_reducible refine Kd.C_alloc ?_ _)));(case side6=>exact (Kd.R_reads' HO_234000.out).2.1);(case side7=>repeat (first|exact (Kd.R_reads' HO_234001.out).2.2|(with_reducible refine Kd.C_alloc ?_ _)));(case side8=>exact (Kd.R_reads' HO_234001.out).2.1);rintro e w97 ⟨rfl,hb⟩;have n0_:=Aside0.mk (Kd.R_below (by (with_reducible repeat (first|apply Kd.R_alloc));exact HO_234000.out) hb);have n1_:=Aside0.mk (Kd.R_below (by (with_reducible repeat (first|apply Kd.R_alloc));exact HO_234001.out) hb);have n2_:=Aside0.mk (Kd.R_below (by (with_reducible repeat (first|apply Kd.R_alloc));exact HO_241000.out) hb);have n3_:=Aside0.mk (Kd.R_below (by (with_reducible repeat (first|apply Kd.R_alloc));exact HO_241001.out) hb);have n4_:=Aside0.mk (Kd.R_below (by (with_reducible repeat (first|apply Kd.R_alloc));exact HO_249000.out) hb);have n5_:=Aside0.mk (Kd.R_below (by (with_reducible repeat (first|apply Kd.R_alloc));exact HO_249001.out) hb);have n6_:=Aside0.mk (Kd.R_below (by (with_reducible repeat (first|apply Kd.R_alloc));exact HO252.out) hb);have n7_:=Aside0.mk (Kd.R_below (by (with_reducible repeat (first|apply Kd.R_alloc));exact HO255.out) hb);have n8_:=Aside0.mk (blk_below (g:=gb218) (o:=.cells #[.slice A0_0 l0_0.length c0_0,.slice A0_1 l0_1.length c0_1] 30 (0,0)) (by (with_reducible repeat (refine blk_alloc ?_ _));exact BK218.out) hb);have n9_:=Aside0.mk (blk_below (g:=gb233) (o:=.cells #[.slice Ao23 t226.length co23,.slice Ao26 t229.length co26] 34 (0,0)) (by (with_reducible repeat (refine blk_alloc ?_ _));exact BK233.out) hb);have n10_:=Aside0.mk (blk_below (g:=gb240) (o:=.cells #[.slice Ao30 t234.length co30,.slice Ao34 t237.length co34] 34 (0,0)) (by (with_reducible repeat (refine blk_alloc ?_ _));exact BK240.out) hb);have n11_:=Aside0.mk (blk_below (g:=gb248) (o:=.cells #[.slice Ao39 t241.length co39,.slice Ao44 t244.length co44] 34 (0,0)) (by (with_reducible repeat (refine blk_alloc ?_ _));exact BK248.out) hb);have n12_:=Aside0.mk (below_step (by repeat (first|(with_reducible first|exact HB.out|apply below_alloc|refine below_set ?_ GE218.out|refine below_set ?_ GE233.out|refine below_set ?_ GE240.out|refine below_set ?_ GE248.out)|exact HB.out)) hb);clear HO_234000;clear HO_234001;clear HO_241000;clear HO_241001;clear HO_249000;clear HO_249001;clear HO252;clear HO255;clear BK218;clear BK233;clear BK240;clear BK248;clear HB;have HO_234000:=n0_;have HO_234001:=n1_;have HO_241000:=n2_;have HO_241001:=n3_;have HO_249000:=n4_;have HO_249001:=n5_;have HO252:=n6_;have HO255:=n7_;have BK218:=n8_;have BK233:=n9_;have BK240:=n10_;have BK248:=n11_;have HB:=n12_;clear n0_ n1_ n2_ n3_ n4_ n5_ n6_ n7_ n8_ n9_ n10_ n11_ n12_;(try clear hb);(try clear hb2);(try clear hk);(try clear hi)))
         go_meet
         case rel=>exact ⟨_,(true),(by first|rfl|(simp;done)|(simp [*];done)),H',⟨by have:=HJ12.out;first|omega|exact Nat.le_refl _⟩,⟨by (with_reducible repeat (first|apply Kd.R_alloc));exact Kd.R_mono HO_234000.out (fun _ hk=>⟨hk.1,⟨hk.2.1,⟨hk.2.2.1,⟨hk.2.2.2.1,hk.2.2.2.2.1⟩⟩⟩⟩)⟩,⟨by (with_reducible repeat (first|apply Kd.R_alloc));exact Kd.R_mono HO_234001.out (fun _ hk=>⟨hk.1,⟨hk.2.1,⟨hk.2.2.1,⟨hk.2.2.2.1,hk.2.2.2.2.1⟩⟩⟩⟩)⟩,⟨by (with_reducible repeat (first|apply Kd.R_alloc));exact Kd.R_mono HO_241000.out (fun _ hk=>⟨hk.1.1.1,⟨hk.1.1.2.1,⟨hk.1.1.2.2.1,⟨hk.1.1.2.2.2.1,hk.1.1.2.2.2.2⟩⟩⟩⟩)⟩,⟨by (with_reducible repeat (first|apply Kd.R_alloc));exact Kd.R_mono HO_241001.out (fun _ hk=>⟨hk.1.1.1,⟨hk.1.1.2.1,⟨hk.1.1.2.2.1,⟨hk.1.1.2.2.2.1,hk.1.1.2.2.2.2⟩⟩⟩⟩)⟩,⟨by (with_reducible repeat (first|apply Kd.R_alloc));exact Kd.R_mono HO_249000.out (fun _ hk=>⟨hk.1,⟨hk.2.1,⟨hk.2.2.1,⟨hk.2.2.2.1,hk.2.2.2.2.1⟩⟩⟩⟩)⟩,⟨by (with_reducible repeat (first|apply Kd.R_alloc));exact Kd.R_mono HO_249001.out (fun _ hk=>⟨hk.1,⟨hk.2.1,⟨hk.2.2.1,⟨hk.2.2.2.1,hk.2.2.2.2.1⟩⟩⟩⟩)⟩,⟨by (with_reducible repeat (refine blk_alloc ?_ _));exact BK218.out⟩,⟨by (with_reducible repeat (refine blk_alloc ?_ _));exact BK233.out⟩,⟨by (with_reducible repeat (refine blk_alloc ?_ _));exact BK240.out⟩,⟨by (with_reducible repeat (refine blk_alloc ?_ _));exact BK248.out⟩,⟨by repeat (first|(with_reducible first|exact HB.out|apply below_alloc|refine below_set ?_ GE218.out|refine below_set ?_ GE233.out|refine below_set ?_ GE240.out|refine below_set ?_ GE248.out)|exact HB.out)⟩⟩
      case rest =>
       clear HC68
       try clear c1
       try clear c2
       try clear p2
       try clear c3
       try clear c4
       try clear c5
       try clear c5b0
       try clear c6
       try clear c7
       try clear c8
       try clear c9
       try clear c13
       try clear c15
       try clear c18
       try clear c19
       try clear c24
       try clear c27
       try clear c28
       try clear c31
       try clear c32
       try clear c40
       try clear c41
       try clear c42
       try clear c46
       try clear c47
       try clear c48
       try clear c49
       try clear c51
       try clear c52
       try clear c55
       try clear c56
       try clear c57
       try clear c59
       try clear c60
       try clear c63
       try clear c66
       try clear c74
       try clear c75
       try clear c76
       try clear c79
       try clear c79b0
       try clear c81
       try clear c82
       try clear c83
       try clear c84
       try clear c86
       try clear c87
       try clear c90
       try clear c91
       try clear c92
       try clear c94
       try clear c95
       try clear hcz15_0
       try clear hcz15_1
       try clear hcz17_0
       try clear hcz17_1
       try clear hcz25_0
       try clear hcz25_1
       try clear hcz27_0
       try clear hcz27_1
       try clear hcz33_0
       try clear hcz33_1
       try clear hcz36_0
       try clear hcz36_1
       try clear hcz43_0
       try clear hcz43_1
       try clear hcz50_0
       try clear hcz50_1
       try clear hcz53_0
       try clear hcz53_1
       try clear hcz58_0
       try clear hcz58_1
       try clear hcz61_0
       try clear hcz61_1
       try clear hcz77_0
       try clear hcz77_1
       try clear hcz7_0
       try clear hcz7_1
       try clear hcz85_0
       try clear hcz85_1
       try clear hcz88_0
       try clear hcz88_1
       try clear hcz93_0
       try clear hcz93_1
       try clear hcz96_0
       try clear hcz96_1
       try clear hfz15_0
       try clear hfz15_1
       try clear hfz17_0
       try clear hfz17_1
       try clear hfz25_0
       try clear hfz25_1
       try clear hfz27_0
       try clear hfz27_1
       try clear hfz33_0
       try clear hfz33_1
       try clear hfz36_0
       try clear hfz36_1
       try clear hfz43_0
       try clear hfz43_1
       try clear hfz50_0
       try clear hfz50_1
       try clear hfz53_0
       try clear hfz53_1
       try clear hfz58_0
       try clear hfz58_1
       try clear hfz61_0
       try clear hfz61_1
       try clear hfz77_0
       try clear hfz77_1
       try clear hfz7_0
       try clear hfz7_1
       try clear hfz85_0
       try clear hfz85_1
       try clear hfz88_0
       try clear hfz88_1
       try clear hfz93_0
       try clear hfz93_1
       try clear hfz96_0
       try clear hfz96_1
       try clear p2
       obtain ⟨kq,x69_67,rfl,HA,HJ67,HO_234000,HO_234001,HO_241000,HO_241001,HO_249000,HO_249001,BK218,BK233,BK240,BK248,HB⟩:=hcut
       have hl241000_67:=(Kd.R_reads' HO_241000.out).1
       rw [hl241000_67] at HO_241000
       (try simp only [hl241000_67])
       (try simp only [hl241000_67] at BK218)
       (try simp only [hl241000_67] at BK233)
       (try simp only [hl241000_67] at BK240)
       (try simp only [hl241000_67] at BK248)
       (try simp only [hl241000_67] at HO_234000)
       (try simp only [hl241000_67] at HO_234001)
       (try simp only [hl241000_67] at HO_241001)
       (try simp only [hl241000_67] at HO_249000)
       (try simp only [hl241000_67] at HO_249001)
       have hl241001_67:=(Kd.R_reads' HO_241001.out).1
       rw [hl241001_67] at HO_241001
       (try simp only [hl241001_67])
       (try simp only [hl241001_67] at BK218)
       (try simp only [hl241001_67] at BK233)
       (try simp only [hl241001_67] at BK240)
       (try simp only [hl241001_67] at BK248)
       (try simp only [hl241001_67] at HO_234000)
       (try simp only [hl241001_67] at HO_234001)
       (try simp only [hl241001_67] at HO_241000)
       (try simp only [hl241001_67] at HO_249000)
       (try simp only [hl241001_67] at HO_249001)
       cases kq with
       | zero=>exact absurd HA.out (by simp [laws_FnExactCrashDisk.j1])
       | succ kj67 =>
        have H:=HA.out
        clear HA
        simp only [laws_FnExactCrashDisk.j1] at H
        by_cases c98:x69_67 = true
        ·subst c98
         have H1:(some false) = some r:=by rw [if_pos rfl] at H;exact H
         clear H
         have H:=H1
         clear H1
         obtain rfl:=Option.some.inj H
         go_wp2
         go_ret
         exact ⟨by first|rfl|(simp [errW_none,errW_some] <;> rfl)|(simp [*,errW_none,errW_some] <;> rfl),by repeat (first|(with_reducible first|exact HB.out|apply below_alloc|refine below_set ?_ GE218.out|refine below_set ?_ GE233.out|refine below_set ?_ GE240.out|refine below_set ?_ GE248.out)|exact HB.out)⟩
        ·replace c98:=Bool.eq_false_iff.mpr c98
         subst c98
         have H1:((laws_markDisk.f kj67 t241 t244 1).bind fun bt261=>((laws_heldDisk.f kj67 bt261.2.1 bt261.2.2 1).bind fun t264=>(if t264 < 0 then (some false) else (if t264 = bt261.1 then ((laws_toDisk.f kj67 l0_0 l0_1).bind fun bt265=>((impl_CrashDisk.f kj67 bt265.1 bt265.2 a1 a2).bind fun bt271=>((laws_eqDisk.f kj67 bt271.1 bt271.2.1 t226 t229).bind fun t279=>(if t279 = true then (laws_FnExactCrashDisk.j2 kj67 bt261.1 (bt271.2.2 != t232) bt261.2.1 bt261.2.2) else (laws_FnExactCrashDisk.j2 kj67 bt261.1 true bt261.2.1 bt261.2.2))))) else (some false))))) = some r:=by rw [if_neg (show ¬ (false = true) by decide)] at H;exact H
         clear H
         have H:=H1
         clear H1
         replace H:=Option.bind_eq_some_iff.mp H
         obtain ⟨⟨t261,t262,t263⟩,A990,H⟩:=H
         replace H:((laws_heldDisk.f kj67 t262 t263 1).bind fun t264=>(if t264 < 0 then (some false) else (if t264 = t261 then ((laws_toDisk.f kj67 l0_0 l0_1).bind fun bt265=>((impl_CrashDisk.f kj67 bt265.1 bt265.2 a1 a2).bind fun bt271=>((laws_eqDisk.f kj67 bt271.1 bt271.2.1 t226 t229).bind fun t279=>(if t279 = true then (laws_FnExactCrashDisk.j2 kj67 t261 (bt271.2.2 != t232) t262 t263) else (laws_FnExactCrashDisk.j2 kj67 t261 true t262 t263))))) else (some false)))) = some r:=H
         have A99:=Aside0.mk A990
         clear A990
         replace H:=Option.bind_eq_some_iff.mp H
         obtain ⟨t264,A1000,H⟩:=H
         replace H:(if t264 < 0 then (some false) else (if t264 = t261 then ((laws_toDisk.f kj67 l0_0 l0_1).bind fun bt265=>((impl_CrashDisk.f kj67 bt265.1 bt265.2 a1 a2).bind fun bt271=>((laws_eqDisk.f kj67 bt271.1 bt271.2.1 t226 t229).bind fun t279=>(if t279 = true then (laws_FnExactCrashDisk.j2 kj67 t261 (bt271.2.2 != t232) t262 t263) else (laws_FnExactCrashDisk.j2 kj67 t261 true t262 t263))))) else (some false))) = some r:=H
         have A100:=Aside0.mk A1000
         clear A1000
         by_cases c101:t264 < 0
         ·rw [if_pos c101] at H
          have c101b0:decide (t264 < 0) = true:=decide_eq_true c101
          clear c101
          obtain rfl:=Option.some.inj H
          have hnb102:=NB248_218.out
          have hnc102:=NB218_248.out
          have hnb103:=NB248_233.out
          have hnc103:=NB233_248.out
          have hnb104:=NB248_240.out
          have hnc104:=NB240_248.out
          have hcz105_0:wc.cell? ⟨gb248,0,none⟩ = some (.slice Ao39 t241.length co39):=(blk_cell BK248.out 0).trans rfl
          have hcz105_1:wc.cell? ⟨gb248,1,none⟩ = some (.slice Ao44 t244.length co44):=(blk_cell BK248.out 1).trans rfl
          have hfz105_0:=blk_frozen BK248.out 0
          have hfz105_1:=blk_frozen BK248.out 1
          go_wp2_with (first|((with_reducible refine gate_callee (f:=19) rfl ?_);refine goesL_ (some 72) rfl rfl Try.func19 (by kernel_rfl) rfl #[.agg #[.slice Ao39 t241.length co39,.slice Ao44 t244.length co44],.int .i64 1] rfl (by (try simp only [List.map_toArray,List.map_cons,List.map_nil]);first|done|rfl|(simp only [List.length_drop,List.length_take];rfl)) ?_;(with_reducible refine (laws_markDisk.calls kj67 (fun k_=>some k_ = (.slice Ao39 t241.length co39:Value).ownBlock) (.slice Ao39 t241.length co39) t241 (fun k_=>some k_ = (.slice Ao44 t244.length co44:Value).ownBlock) (.slice Ao44 t244.length co44) t244 1 t261 t262 t263 w _ ?side1 ?side2 ?side3 ?side4 ?side5 A99.out).mono ?_);(case side1=>repeat (first|(with_reducible first|exact HB.out|apply below_alloc|refine below_set ?_ GE218.out|refine below_set ?_ GE233.out|refine below_set ?_ GE240.out|refine below_set ?_ GE248.out)|exact HB.out));(case side2=>exact Kd.R_tight rfl HO_249000.out);(case side3=>exact fun k_ e_=>(HO_249000.out.1 k_ e_.symm).2.2.2.2);(case side4=>exact Kd.R_tight rfl HO_249001.out);(case side5=>exact fun k_ e_=>(HO_249001.out.1 k_ e_.symm).2.2.2.2);rintro e w106 ⟨rfl,hy0,hy1,hb,hkp⟩;refine ⟨_,rfl,?_⟩;have n0_:=Aside0.mk (Kd.R_mono (ok':=fun k_=>some k_ ≠ (.slice Ao26 t229.length co26:Value).ownBlock ∧ some k_ ≠ (.slice Ao30 t258.length co30:Value).ownBlock ∧ some k_ ≠ (.slice Ao34 t259.length co34:Value).ownBlock ∧ some k_ ≠ (.slice Ao39 t241.length co39:Value).ownBlock ∧ some k_ ≠ (.slice Ao44 t244.length co44:Value).ownBlock) (Kd.R_keptB (HO_234000.out) hkp (fun k_ hk_ hs_=>Or.elim hs_ (fun e_=>(hk_.2.2.2.1) e_) (fun e_=>(hk_.2.2.2.2) e_))) (fun k_ hk_=>⟨hk_.1.1,hk_.1.2.1,hk_.1.2.2.1,hk_.1.2.2.2.1,hk_.1.2.2.2.2⟩));have n1_:=Aside0.mk (Kd.R_mono (ok':=fun k_=>some k_ ≠ (.slice Ao23 t226.length co23:Value).ownBlock ∧ some k_ ≠ (.slice Ao30 t258.length co30:Value).ownBlock ∧ some k_ ≠ (.slice Ao34 t259.length co34:Value).ownBlock ∧ some k_ ≠ (.slice Ao39 t241.length co39:Value).ownBlock ∧ some k_ ≠ (.slice Ao44 t244.length co44:Value).ownBlock) (Kd.R_keptB (HO_234001.out) hkp (fun k_ hk_ hs_=>Or.elim hs_ (fun e_=>(hk_.2.2.2.1) e_) (fun e_=>(hk_.2.2.2.2) e_))) (fun k_ hk_=>⟨hk_.1.1,hk_.1.2.1,hk_.1.2.2.1,hk_.1.2.2.2.1,hk_.1.2.2.2.2⟩));have n2_:=Aside0.mk (Kd.R_mono (ok':=fun k_=>some k_ ≠ (.slice Ao23 t226.length co23:Value).ownBlock ∧ some k_ ≠ (.slice Ao26 t229.length co26:Value).ownBlock ∧ some k_ ≠ (.slice Ao34 t259.length co34:Value).ownBlock ∧ some k_ ≠ (.slice Ao39 t241.length co39:Value).ownBlock ∧ some k_ ≠ (.slice Ao44 t244.length co44:Value).ownBlock) (Kd.R_keptB (HO_241000.out) hkp (fun k_ hk_ hs_=>Or.elim hs_ (fun e_=>(hk_.2.2.2.1) e_) (fun e_=>(hk_.2.2.2.2) e_))) (fun k_ hk_=>⟨hk_.1.1,hk_.1.2.1,hk_.1.2.2.1,hk_.1.2.2.2.1,hk_.1.2.2.2.2⟩));have n3_:=Aside0.mk (Kd.R_mono (ok':=fun k_=>some k_ ≠ (.slice Ao23 t226.length co23:Value).ownBlock ∧ some k_ ≠ (.slice Ao26 t229.length co26:Value).ownBlock ∧ some k_ ≠ (.slice Ao30 t258.length co30:Value).ownBlock ∧ some k_ ≠ (.slice Ao39 t241.length co39:Value).ownBlock ∧ some k_ ≠ (.slice Ao44 t244.length co44:Value).ownBlock) (Kd.R_keptB (HO_241001.out) hkp (fun k_ hk_ hs_=>Or.elim hs_ (fun e_=>(hk_.2.2.2.1) e_) (fun e_=>(hk_.2.2.2.2) e_))) (fun k_ hk_=>⟨hk_.1.1,hk_.1.2.1,hk_.1.2.2.1,hk_.1.2.2.2.1,hk_.1.2.2.2.2⟩));have n4_:=Aside0.mk (Kd.R_reok rfl hy0 (fun k_ e_=>HO_249000.out.1 k_ e_));have n5_:=Aside0.mk (Kd.R_reok rfl hy1 (fun k_ e_=>HO_249001.out.1 k_ e_));have n6_:=Aside0.mk (blk_kept (by (with_reducible repeat (refine blk_alloc ?_ _));exact BK218.out) hkp (fun hs_=>Or.elim hs_ (fun e_=>(fun e_=>(Kd.R_ne HO_249000.out BK218.out (by decide)) e_) e_) (fun e_=>(fun e_=>(Kd.R_ne HO_249001.out BK218.out (by decide)) e_) e_)));have n7_:=Aside0.mk (blk_kept (by (with_reducible repeat (refine blk_alloc ?_ _));exact BK233.out) hkp (fun hs_=>Or.elim hs_ (fun e_=>(fun e_=>(Kd.R_ne HO_249000.out BK233.out (by decide)) e_) e_) (fun e_=>(fun e_=>(Kd.R_ne HO_249001.out BK233.out (by decide)) e_) e_)));have n8_:=Aside0.mk (blk_kept (by (with_reducible repeat (refine blk_alloc ?_ _));exact BK240.out) hkp (fun hs_=>Or.elim hs_ (fun e_=>(fun e_=>(Kd.R_ne HO_249000.out BK240.out (by decide)) e_) e_) (fun e_=>(fun e_=>(Kd.R_ne HO_249001.out BK240.out (by decide)) e_) e_)));have n9_:=Aside0.mk (blk_kept (by (with_reducible repeat (refine blk_alloc ?_ _));exact BK248.out) hkp (fun hs_=>Or.elim hs_ (fun e_=>(fun e_=>(Kd.R_ne HO_249000.out BK248.out (by decide)) e_) e_) (fun e_=>(fun e_=>(Kd.R_ne HO_249001.out BK248.out (by decide)) e_) e_)));have n10_:=Aside0.mk (hb);clear HO_234000;clear HO_234001;clear HO_241000;clear HO_241001;clear HO_249000;clear HO_249001;clear BK218;clear BK233;clear BK240;clear BK248;clear HB;have HO_234000:=n0_;have HO_234001:=n1_;have HO_241000:=n2_;have HO_241001:=n3_;have HO_249000:=n4_;have HO_249001:=n5_;have BK218:=n6_;have BK233:=n7_;have BK240:=n8_;have BK248:=n9_;have HB:=n10_;clear n0_ n1_ n2_ n3_ n4_ n5_ n6_ n7_ n8_ n9_ n10_;(try clear hb);(try clear hkp);(try clear hy0);(try clear hy1);have hcz107_0:w106.cell? ⟨gb248,0,none⟩ = some (.slice Ao39 t241.length co39):=(blk_cell BK248.out 0).trans rfl;have hcz107_1:w106.cell? ⟨gb248,1,none⟩ = some (.slice Ao44 t244.length co44):=(blk_cell BK248.out 1).trans rfl;have hfz107_0:=blk_frozen BK248.out 0;have hfz107_1:=blk_frozen BK248.out 1)|((with_reducible refine gate_callee (f:=24) rfl ?_);refine goesL_ (some 75) rfl rfl Try.func24 (by kernel_rfl) rfl #[.agg #[.slice Ao39 t262.length co39,.slice Ao44 t263.length co44],.int .i64 1] rfl (by (try simp only [List.map_toArray,List.map_cons,List.map_nil]);first|done|(rw [show t262.length = t241.length from (Kd.R_reads' HO_249000.out).1.symm,show t263.length = t244.length from (Kd.R_reads' HO_249001.out).1.symm] <;> rfl)|rfl|(simp only [List.length_drop,List.length_take];rfl)) ?_;(with_reducible refine (laws_heldDisk.calls kj67 _ _ t262 _ _ t263 1 t264 _ ?side1 ?side2 ?side3 ?side4 A100.out).mono ?_);(case side1=>repeat (first|exact (Kd.R_reads' HO_249000.out).2.2|(with_reducible refine Kd.C_alloc ?_ _)));(case side2=>rw [show t262.length = t241.length from (Kd.R_reads' HO_249000.out).1.symm];exact (Kd.R_reads' HO_249000.out).2.1);(case side3=>repeat (first|exact (Kd.R_reads' HO_249001.out).2.2|(with_reducible refine Kd.C_alloc ?_ _)));(case side4=>rw [show t263.length = t244.length from (Kd.R_reads' HO_249001.out).1.symm];exact (Kd.R_reads' HO_249001.out).2.1);rintro e w108 ⟨rfl,hb⟩;refine ⟨_,rfl,?_⟩;have n0_:=Aside0.mk (Kd.R_below (by (with_reducible repeat (first|apply Kd.R_alloc));exact HO_234000.out) hb);have n1_:=Aside0.mk (Kd.R_below (by (with_reducible repeat (first|apply Kd.R_alloc));exact HO_234001.out) hb);have n2_:=Aside0.mk (Kd.R_below (by (with_reducible repeat (first|apply Kd.R_alloc));exact HO_241000.out) hb);have n3_:=Aside0.mk (Kd.R_below (by (with_reducible repeat (first|apply Kd.R_alloc));exact HO_241001.out) hb);have n4_:=Aside0.mk (Kd.R_below (by (with_reducible repeat (first|apply Kd.R_alloc));exact HO_249000.out) hb);have n5_:=Aside0.mk (Kd.R_below (by (with_reducible repeat (first|apply Kd.R_alloc));exact HO_249001.out) hb);have n6_:=Aside0.mk (blk_below (g:=gb218) (o:=.cells #[.slice A0_0 l0_0.length c0_0,.slice A0_1 l0_1.length c0_1] 30 (0,0)) (by (with_reducible repeat (refine blk_alloc ?_ _));exact BK218.out) hb);have n7_:=Aside0.mk (blk_below (g:=gb233) (o:=.cells #[.slice Ao23 t226.length co23,.slice Ao26 t229.length co26] 34 (0,0)) (by (with_reducible repeat (refine blk_alloc ?_ _));exact BK233.out) hb);have n8_:=Aside0.mk (blk_below (g:=gb240) (o:=.cells #[.slice Ao30 t258.length co30,.slice Ao34 t259.length co34] 34 (0,0)) (by (with_reducible repeat (refine blk_alloc ?_ _));exact BK240.out) hb);have n9_:=Aside0.mk (blk_below (g:=gb248) (o:=.cells #[.slice Ao39 t241.length co39,.slice Ao44 t244.length co44] 34 (0,0)) (by (with_reducible repeat (refine blk_alloc ?_ _));exact BK248.out) hb);have n10_:=Aside0.mk (below_step (by repeat (first|(with_reducible first|exact HB.out|apply below_alloc|refine below_set ?_ GE218.out|refine below_set ?_ GE233.out|refine below_set ?_ GE240.out|refine below_set ?_ GE248.out)|exact HB.out)) hb);clear HO_234000;clear HO_234001;clear HO_241000;clear HO_241001;clear HO_249000;clear HO_249001;clear BK218;clear BK233;clear BK240;clear BK248;clear HB;have HO_234000:=n0_;have HO_234001:=n1_;have HO_241000:=n2_;have HO_241001:=n3_;have HO_249000:=n4_;have HO_249001:=n5_;have BK218:=n6_;have BK233:=n7_;have BK240:=n8_;have BK248:=n9_;have HB:=n10_;clear n0_ n1_ n2_ n3_ n4_ n5_ n6_ n7_ n8_ n9_ n10_;(try clear hb);(try clear hb2);(try clear hk);(try clear hi)))
          go_ret
          exact ⟨by first|rfl|(simp [errW_none,errW_some] <;> rfl)|(simp [*,errW_none,errW_some] <;> rfl),by repeat (first|(with_reducible first|exact HB.out|apply below_alloc|refine below_set ?_ GE218.out|refine below_set ?_ GE233.out|refine below_set ?_ GE240.out|refine below_set ?_ GE248.out)|exact HB.out)⟩
         ·rw [if_neg c101] at H
          have c101b0:decide (t264 < 0) = false:=decide_eq_false c101
          clear c101
          by_cases c109:t264 = t261
          ·rw [if_pos c109] at H
           have c109b0:(t264 == t261) = true:=beq_iff_eq.mpr c109
           have c109b1:(t264 != t261) = false:=bne_eq_false_iff_eq.mpr c109
           clear c109
           replace H:=Option.bind_eq_some_iff.mp H
           obtain ⟨⟨t265,t268⟩,A1100,H⟩:=H
           replace H:((impl_CrashDisk.f kj67 t265 t268 a1 a2).bind fun bt271=>((laws_eqDisk.f kj67 bt271.1 bt271.2.1 t226 t229).bind fun t279=>(if t279 = true then (laws_FnExactCrashDisk.j2 kj67 t261 (bt271.2.2 != t232) t262 t263) else (laws_FnExactCrashDisk.j2 kj67 t261 true t262 t263)))) = some r:=H
           have A110:=Aside0.mk A1100
           clear A1100
           replace H:=Option.bind_eq_some_iff.mp H
           obtain ⟨⟨t271,t274,t277⟩,A1110,H⟩:=H
           replace H:((laws_eqDisk.f kj67 t271 t274 t226 t229).bind fun t279=>(if t279 = true then (laws_FnExactCrashDisk.j2 kj67 t261 (t277 != t232) t262 t263) else (laws_FnExactCrashDisk.j2 kj67 t261 true t262 t263))) = some r:=H
           have A111:=Aside0.mk A1110
           clear A1110
           have HC112:=Aside0.mk H
           clear H
           have hnb113:=NB248_218.out
           have hnc113:=NB218_248.out
           have hnb114:=NB248_233.out
           have hnc114:=NB233_248.out
           have hnb115:=NB248_240.out
           have hnc115:=NB240_248.out
           have hcz116_0:wc.cell? ⟨gb248,0,none⟩ = some (.slice Ao39 t241.length co39):=(blk_cell BK248.out 0).trans rfl
           have hcz116_1:wc.cell? ⟨gb248,1,none⟩ = some (.slice Ao44 t244.length co44):=(blk_cell BK248.out 1).trans rfl
           have hfz116_0:=blk_frozen BK248.out 0
           have hfz116_1:=blk_frozen BK248.out 1
           go_upto_region 25 with (first|((with_reducible refine gate_callee (f:=19) rfl ?_);refine goesL_ (some 72) rfl rfl Try.func19 (by kernel_rfl) rfl #[.agg #[.slice Ao39 t241.length co39,.slice Ao44 t244.length co44],.int .i64 1] rfl (by (try simp only [List.map_toArray,List.map_cons,List.map_nil]);first|done|rfl|(simp only [List.length_drop,List.length_take];rfl)) ?_;(with_reducible refine (laws_markDisk.calls kj67 (fun k_=>some k_ = (.slice Ao39 t241.length co39:Value).ownBlock) (.slice Ao39 t241.length co39) t241 (fun k_=>some k_ = (.slice Ao44 t244.length co44:Value).ownBlock) (.slice Ao44 t244.length co44) t244 1 t261 t262 t263 w _ ?side1 ?side2 ?side3 ?side4 ?side5 A99.out).mono ?_);(case side1=>repeat (first|(with_reducible first|exact HB.out|apply below_alloc|refine below_set ?_ GE218.out|refine below_set ?_ GE233.out|refine below_set ?_ GE240.out|refine below_set ?_ GE248.out)|exact HB.out));(case side2=>exact Kd.R_tight rfl HO_249000.out);(case side3=>exact fun k_ e_=>(HO_249000.out.1 k_ e_.symm).2.2.2.2);(case side4=>exact Kd.R_tight rfl HO_249001.out);(case side5=>exact fun k_ e_=>(HO_249001.out.1 k_ e_.symm).2.2.2.2);rintro e w117 ⟨rfl,hy0,hy1,hb,hkp⟩;refine ⟨_,rfl,?_⟩;have n0_:=Aside0.mk (Kd.R_mono (ok':=fun k_=>some k_ ≠ (.slice Ao26 t229.length co26:Value).ownBlock ∧ some k_ ≠ (.slice Ao30 t258.length co30:Value).ownBlock ∧ some k_ ≠ (.slice Ao34 t259.length co34:Value).ownBlock ∧ some k_ ≠ (.slice Ao39 t241.length co39:Value).ownBlock ∧ some k_ ≠ (.slice Ao44 t244.length co44:Value).ownBlock) (Kd.R_keptB (HO_234000.out) hkp (fun k_ hk_ hs_=>Or.elim hs_ (fun e_=>(hk_.2.2.2.1) e_) (fun e_=>(hk_.2.2.2.2) e_))) (fun k_ hk_=>⟨hk_.1.1,hk_.1.2.1,hk_.1.2.2.1,hk_.1.2.2.2.1,hk_.1.2.2.2.2⟩));have n1_:=Aside0.mk (Kd.R_mono (ok':=fun k_=>some k_ ≠ (.slice Ao23 t226.length co23:Value).ownBlock ∧ some k_ ≠ (.slice Ao30 t258.length co30:Value).ownBlock ∧ some k_ ≠ (.slice Ao34 t259.length co34:Value).ownBlock ∧ some k_ ≠ (.slice Ao39 t241.length co39:Value).ownBlock ∧ some k_ ≠ (.slice Ao44 t244.length co44:Value).ownBlock) (Kd.R_keptB (HO_234001.out) hkp (fun k_ hk_ hs_=>Or.elim hs_ (fun e_=>(hk_.2.2.2.1) e_) (fun e_=>(hk_.2.2.2.2) e_))) (fun k_ hk_=>⟨hk_.1.1,hk_.1.2.1,hk_.1.2.2.1,hk_.1.2.2.2.1,hk_.1.2.2.2.2⟩));have n2_:=Aside0.mk (Kd.R_mono (ok':=fun k_=>some k_ ≠ (.slice Ao23 t226.length co23:Value).ownBlock ∧ some k_ ≠ (.slice Ao26 t229.length co26:Value).ownBlock ∧ some k_ ≠ (.slice Ao34 t259.length co34:Value).ownBlock ∧ some k_ ≠ (.slice Ao39 t241.length co39:Value).ownBlock ∧ some k_ ≠ (.slice Ao44 t244.length co44:Value).ownBlock) (Kd.R_keptB (HO_241000.out) hkp (fun k_ hk_ hs_=>Or.elim hs_ (fun e_=>(hk_.2.2.2.1) e_) (fun e_=>(hk_.2.2.2.2) e_))) (fun k_ hk_=>⟨hk_.1.1,hk_.1.2.1,hk_.1.2.2.1,hk_.1.2.2.2.1,hk_.1.2.2.2.2⟩));have n3_:=Aside0.mk (Kd.R_mono (ok':=fun k_=>some k_ ≠ (.slice Ao23 t226.length co23:Value).ownBlock ∧ some k_ ≠ (.slice Ao26 t229.length co26:Value).ownBlock ∧ some k_ ≠ (.slice Ao30 t258.length co30:Value).ownBlock ∧ some k_ ≠ (.slice Ao39 t241.length co39:Value).ownBlock ∧ some k_ ≠ (.slice Ao44 t244.length co44:Value).ownBlock) (Kd.R_keptB (HO_241001.out) hkp (fun k_ hk_ hs_=>Or.elim hs_ (fun e_=>(hk_.2.2.2.1) e_) (fun e_=>(hk_.2.2.2.2) e_))) (fun k_ hk_=>⟨hk_.1.1,hk_.1.2.1,hk_.1.2.2.1,hk_.1.2.2.2.1,hk_.1.2.2.2.2⟩));have n4_:=Aside0.mk (Kd.R_reok rfl hy0 (fun k_ e_=>HO_249000.out.1 k_ e_));have n5_:=Aside0.mk (Kd.R_reok rfl hy1 (fun k_ e_=>HO_249001.out.1 k_ e_));have n6_:=Aside0.mk (blk_kept (by (with_reducible repeat (refine blk_alloc ?_ _));exact BK218.out) hkp (fun hs_=>Or.elim hs_ (fun e_=>(fun e_=>(Kd.R_ne HO_249000.out BK218.out (by decide)) e_) e_) (fun e_=>(fun e_=>(Kd.R_ne HO_249001.out BK218.out (by decide)) e_) e_)));have n7_:=Aside0.mk (blk_kept (by (with_reducible repeat (refine blk_alloc ?_ _));exact BK233.out) hkp (fun hs_=>Or.elim hs_ (fun e_=>(fun e_=>(Kd.R_ne HO_249000.out BK233.out (by decide)) e_) e_) (fun e_=>(fun e_=>(Kd.R_ne HO_249001.out BK233.out (by decide)) e_) e_)));have n8_:=Aside0.mk (blk_kept (by (with_reducible repeat (refine blk_alloc ?_ _));exact BK240.out) hkp (fun hs_=>Or.elim hs_ (fun e_=>(fun e_=>(Kd.R_ne HO_249000.out BK240.out (by decide)) e_) e_) (fun e_=>(fun e_=>(Kd.R_ne HO_249001.out BK240.out (by decide)) e_) e_)));have n9_:=Aside0.mk (blk_kept (by (with_reducible repeat (refine blk_alloc ?_ _));exact BK248.out) hkp (fun hs_=>Or.elim hs_ (fun e_=>(fun e_=>(Kd.R_ne HO_249000.out BK248.out (by decide)) e_) e_) (fun e_=>(fun e_=>(Kd.R_ne HO_249001.out BK248.out (by decide)) e_) e_)));have n10_:=Aside0.mk (hb);clear HO_234000;clear HO_234001;clear HO_241000;clear HO_241001;clear HO_249000;clear HO_249001;clear BK218;clear BK233;clear BK240;clear BK248;clear HB;have HO_234000:=n0_;have HO_234001:=n1_;have HO_241000:=n2_;have HO_241001:=n3_;have HO_249000:=n4_;have HO_249001:=n5_;have BK218:=n6_;have BK233:=n7_;have BK240:=n8_;have BK248:=n9_;have HB:=n10_;clear n0_ n1_ n2_ n3_ n4_ n5_ n6_ n7_ n8_ n9_ n10_;(try clear hb);(try clear hkp);(try clear hy0);(try clear hy1);have hcz118_0:w117.cell? ⟨gb248,0,none⟩ = some (.slice Ao39 t241.length co39):=(blk_cell BK248.out 0).trans rfl;have hcz118_1:w117.cell? ⟨gb248,1,none⟩ = some (.slice Ao44 t244.length co44):=(blk_cell BK248.out 1).trans rfl;have hfz118_0:=blk_frozen BK248.out 0;have hfz118_1:=blk_frozen BK248.out 1)|((with_reducible refine gate_callee (f:=24) rfl ?_);refine goesL_ (some 75) rfl rfl Try.func24 (by kernel_rfl) rfl #[.agg #[.slice Ao39 t262.length co39,.slice Ao44 t263.length co44],.int .i64 1] rfl (by (try simp only [List.map_toArray,List.map_cons,List.map_nil]);first|done|(rw [show t262.length = t241.length from (Kd.R_reads' HO_249000.out).1.symm,show t263.length = t244.length from (Kd.R_reads' HO_249001.out).1.symm] <;> rfl)|rfl|(simp only [List.length_drop,List.length_take];rfl)) ?_;(with_reducible refine (laws_heldDisk.calls kj67 _ _ t262 _ _ t263 1 t264 _ ?side1 ?side2 ?side3 ?side4 A100.out).mono ?_);(case side1=>repeat (first|exact (Kd.R_reads' HO_249000.out).2.2|(with_reducible refine Kd.C_alloc ?_ _)));(case side2=>rw [show t262.length = t241.length from (Kd.R_reads' HO_249000.out).1.symm];exact (Kd.R_reads' HO_249000.out).2.1);(case side3=>repeat (first|exact (Kd.R_reads' HO_249001.out).2.2|(with_reducible refine Kd.C_alloc ?_ _)));(case side4=>rw [show t263.length = t244.length from (Kd.R_reads' HO_249001.out).1.symm];exact (Kd.R_reads' HO_249001.out).2.1);rintro e w119 ⟨rfl,hb⟩;refine ⟨_,rfl,?_⟩;have n0_:=Aside0.mk (Kd.R_below (by (with_reducible repeat (first|apply Kd.R_alloc));exact HO_234000.out) hb);have n1_:=Aside0.mk (Kd.R_below (by (with_reducible repeat (first|apply Kd.R_alloc));exact HO_234001.out) hb);have n2_:=Aside0.mk (Kd.R_below (by (with_reducible repeat (first|apply Kd.R_alloc));exact HO_241000.out) hb);have n3_:=Aside0.mk (Kd.R_below (by (with_reducible repeat (first|apply Kd.R_alloc));exact HO_241001.out) hb);have n4_:=Aside0.mk (Kd.R_below (by (with_reducible repeat (first|apply Kd.R_alloc));exact HO_249000.out) hb);have n5_:=Aside0.mk (Kd.R_below (by (with_reducible repeat (first|apply Kd.R_alloc));exact HO_249001.out) hb);have n6_:=Aside0.mk (blk_below (g:=gb218) (o:=.cells #[.slice A0_0 l0_0.length c0_0,.slice A0_1 l0_1.length c0_1] 30 (0,0)) (by (with_reducible repeat (refine blk_alloc ?_ _));exact BK218.out) hb);have n7_:=Aside0.mk (blk_below (g:=gb233) (o:=.cells #[.slice Ao23 t226.length co23,.slice Ao26 t229.length co26] 34 (0,0)) (by (with_reducible repeat (refine blk_alloc ?_ _));exact BK233.out) hb);have n8_:=Aside0.mk (blk_below (g:=gb240) (o:=.cells #[.slice Ao30 t258.length co30,.slice Ao34 t259.length co34] 34 (0,0)) (by (with_reducible repeat (refine blk_alloc ?_ _));exact BK240.out) hb);have n9_:=Aside0.mk (blk_below (g:=gb248) (o:=.cells #[.slice Ao39 t241.length co39,.slice Ao44 t244.length co44] 34 (0,0)) (by (with_reducible repeat (refine blk_alloc ?_ _));exact BK248.out) hb);have n10_:=Aside0.mk (below_step (by repeat (first|(with_reducible first|exact HB.out|apply below_alloc|refine below_set ?_ GE218.out|refine below_set ?_ GE233.out|refine below_set ?_ GE240.out|refine below_set ?_ GE248.out)|exact HB.out)) hb);clear HO_234000;clear HO_234001;clear HO_241000;clear HO_241001;clear HO_249000;clear HO_249001;clear BK218;clear BK233;clear BK240;clear BK248;clear HB;have HO_234000:=n0_;have HO_234001:=n1_;have HO_241000:=n2_;have HO_241001:=n3_;have HO_249000:=n4_;have HO_249001:=n5_;have BK218:=n6_;have BK233:=n7_;have BK240:=n8_;have BK248:=n9_;have HB:=n10_;clear n0_ n1_ n2_ n3_ n4_ n5_ n6_ n7_ n8_ n9_ n10_;(try clear hb);(try clear hb2);(try clear hk);(try clear hi);have hnb120:=NB218_233.out;have hnc120:=NB233_218.out;have hnb121:=NB218_240.out;have hnc121:=NB240_218.out;have hcz122_0:w119.cell? ⟨gb218,0,none⟩ = some (.slice A0_0 l0_0.length c0_0):=(blk_cell BK218.out 0).trans rfl;have hcz122_1:w119.cell? ⟨gb218,1,none⟩ = some (.slice A0_1 l0_1.length c0_1):=(blk_cell BK218.out 1).trans rfl;have hfz122_0:=blk_frozen BK218.out 0;have hfz122_1:=blk_frozen BK218.out 1)|((with_reducible refine gate_callee (f:=15) rfl ?_);refine goesL_ (some 83) rfl rfl Try.func15 (by kernel_rfl) rfl #[.agg #[.slice A0_0 l0_0.length c0_0,.slice A0_1 l0_1.length c0_1]] rfl (by (try simp only [List.map_toArray,List.map_cons,List.map_nil]);first|done|rfl|(simp only [List.length_drop,List.length_take];rfl)) ?_;(with_reducible refine (laws_toDisk.calls kj67 _ _ l0_0 _ _ l0_1 t265 t268 _ ?side1 ?side2 ?side3 ?side4 A110.out).mono ?_);(case side1=>repeat (first|exact (Kd.C_below HR0_0.out HB.out)|(with_reducible refine Kd.C_alloc ?_ _)));(case side2=>exact HC0_0.out);(case side3=>repeat (first|exact (Kd.C_below HR0_1.out HB.out)|(with_reducible refine Kd.C_alloc ?_ _)));(case side4=>exact HC0_1.out);rintro e w123 ⟨v266,v269,rfl,ho0,ho1,hb⟩;refine ⟨_,rfl,?_⟩;have n0_:=Aside0.mk (Kd.R_mono (Kd.R_told (Kd.R_told (Kd.R_old (by (with_reducible repeat (first|apply Kd.R_alloc));exact HO_234000.out) hb) (Kd.R_base ho0)) (Kd.R_base ho1)) (fun _ h_=>h_.1));have n1_:=Aside0.mk (Kd.R_mono (Kd.R_told (Kd.R_told (Kd.R_old (by (with_reducible repeat (first|apply Kd.R_alloc));exact HO_234001.out) hb) (Kd.R_base ho0)) (Kd.R_base ho1)) (fun _ h_=>h_.1));have n2_:=Aside0.mk (Kd.R_mono (Kd.R_told (Kd.R_told (Kd.R_old (by (with_reducible repeat (first|apply Kd.R_alloc));exact HO_241000.out) hb) (Kd.R_base ho0)) (Kd.R_base ho1)) (fun _ h_=>h_.1));have n3_:=Aside0.mk (Kd.R_mono (Kd.R_told (Kd.R_told (Kd.R_old (by (with_reducible repeat (first|apply Kd.R_alloc));exact HO_241001.out) hb) (Kd.R_base ho0)) (Kd.R_base ho1)) (fun _ h_=>h_.1));have n4_:=Aside0.mk (Kd.R_mono (Kd.R_told (Kd.R_told (Kd.R_old (by (with_reducible repeat (first|apply Kd.R_alloc));exact HO_249000.out) hb) (Kd.R_base ho0)) (Kd.R_base ho1)) (fun _ h_=>h_.1));have n5_:=Aside0.mk (Kd.R_mono (Kd.R_told (Kd.R_told (Kd.R_old (by (with_reducible repeat (first|apply Kd.R_alloc));exact HO_249001.out) hb) (Kd.R_base ho0)) (Kd.R_base ho1)) (fun _ h_=>h_.1));have n6_:=Aside0.mk (Kd.R_lower (Kd.R_new' (Kd.R_new' (Kd.R_new' (Kd.R_new' (Kd.R_new' (Kd.R_new' ho0 (Kd.R_lt (by (with_reducible repeat (first|apply Kd.R_alloc));exact HO_234000.out))) (Kd.R_lt (by (with_reducible repeat (first|apply Kd.R_alloc));exact HO_234001.out))) (Kd.R_lt (by (with_reducible repeat (first|apply Kd.R_alloc));exact HO_241000.out))) (Kd.R_lt (by (with_reducible repeat (first|apply Kd.R_alloc));exact HO_241001.out))) (Kd.R_lt (by (with_reducible repeat (first|apply Kd.R_alloc));exact HO_249000.out))) (Kd.R_lt (by (with_reducible repeat (first|apply Kd.R_alloc));exact HO_249001.out))) (below_size (by repeat (first|(with_reducible first|exact HB.out|apply below_alloc|refine below_set ?_ GE218.out|refine below_set ?_ GE233.out|refine below_set ?_ GE240.out|refine below_set ?_ GE248.out)|exact HB.out))));have n7_:=Aside0.mk (Kd.R_lower (Kd.R_new' (Kd.R_new' (Kd.R_new' (Kd.R_new' (Kd.R_new' (Kd.R_new' ho1 (Kd.R_lt (by (with_reducible repeat (first|apply Kd.R_alloc));exact HO_234000.out))) (Kd.R_lt (by (with_reducible repeat (first|apply Kd.R_alloc));exact HO_234001.out))) (Kd.R_lt (by (with_reducible repeat (first|apply Kd.R_alloc));exact HO_241000.out))) (Kd.R_lt (by (with_reducible repeat (first|apply Kd.R_alloc));exact HO_241001.out))) (Kd.R_lt (by (with_reducible repeat (first|apply Kd.R_alloc));exact HO_249000.out))) (Kd.R_lt (by (with_reducible repeat (first|apply Kd.R_alloc));exact HO_249001.out))) (below_size (by repeat (first|(with_reducible first|exact HB.out|apply below_alloc|refine below_set ?_ GE218.out|refine below_set ?_ GE233.out|refine below_set ?_ GE240.out|refine below_set ?_ GE248.out)|exact HB.out))));have n8_:=Aside0.mk (blk_below (g:=gb218) (o:=.cells #[.slice A0_0 l0_0.length c0_0,.slice A0_1 l0_1.length c0_1] 30 (0,0)) (by (with_reducible repeat (refine blk_alloc ?_ _));exact BK218.out) hb);have n9_:=Aside0.mk (blk_below (g:=gb233) (o:=.cells #[.slice Ao23 t226.length co23,.slice Ao26 t229.length co26] 34 (0,0)) (by (with_reducible repeat (refine blk_alloc ?_ _));exact BK233.out) hb);have n10_:=Aside0.mk (blk_below (g:=gb240) (o:=.cells #[.slice Ao30 t258.length co30,.slice Ao34 t259.length co34] 34 (0,0)) (by (with_reducible repeat (refine blk_alloc ?_ _));exact BK240.out) hb);have n11_:=Aside0.mk (blk_below (g:=gb248) (o:=.cells #[.slice Ao39 t241.length co39,.slice Ao44 t244.length co44] 34 (0,0)) (by (with_reducible repeat (refine blk_alloc ?_ _));exact BK248.out) hb);have n12_:=Aside0.mk (below_step (by repeat (first|(with_reducible first|exact HB.out|apply below_alloc|refine below_set ?_ GE218.out|refine below_set ?_ GE233.out|refine below_set ?_ GE240.out|refine below_set ?_ GE248.out)|exact HB.out)) hb);clear HO_234000;clear HO_234001;clear HO_241000;clear HO_241001;clear HO_249000;clear HO_249001;clear BK218;clear BK233;clear BK240;clear BK248;clear HB;have HO_234000:=n0_;have HO_234001:=n1_;have HO_241000:=n2_;have HO_241001:=n3_;have HO_249000:=n4_;have HO_249001:=n5_;have HO267:=n6_;have HO270:=n7_;have BK218:=n8_;have BK233:=n9_;have BK240:=n10_;have BK248:=n11_;have HB:=n12_;clear n0_ n1_ n2_ n3_ n4_ n5_ n6_ n7_ n8_ n9_ n10_ n11_ n12_;(try clear hb);(try clear hb2);(try clear hk);(try clear hi);(try clear ho0);(try clear ho1);obtain ⟨Ao124,co124,eo124⟩:=Kd.R_slice HO267.out;subst eo124;obtain ⟨Ao125,co125,eo125⟩:=Kd.R_slice HO270.out;subst eo125)|((with_reducible refine gate_callee (f:=28) rfl ?_);refine goesL_ (some 86) rfl rfl Try.func28 (by kernel_rfl) rfl #[.agg #[.slice Ao124 t265.length co124,.slice Ao125 t268.length co125],.int .i64 a1,.int .i64 a2] rfl (by (try simp only [List.map_toArray,List.map_cons,List.map_nil]);first|done|rfl|(simp only [List.length_drop,List.length_take];rfl)) ?_;(with_reducible refine (impl_CrashDisk.calls kj67 (fun k_=>some k_ = (.slice Ao124 t265.length co124:Value).ownBlock) _ _ t265 (fun k_=>some k_ = (.slice Ao125 t268.length co125:Value).ownBlock) _ _ t268 a1 a2 t271 t274 t277 _ ?side1 ?side2 A111.out).mono ?_);(case side1=>exact Kd.R_V (Kd.R_tight rfl (Kd.R_types (Kd.R_types (Kd.R_types (Kd.R_types (HO267.out) BK218.out (by decide)) BK233.out (by decide)) BK240.out (by decide)) BK248.out (by decide))));(case side2=>exact Kd.R_V (Kd.R_tight rfl (Kd.R_types (Kd.R_types (Kd.R_types (Kd.R_types (HO270.out) BK218.out (by decide)) BK233.out (by decide)) BK240.out (by decide)) BK248.out (by decide))));rintro e w126 ⟨v272,v275,rfl,ho0,ho1,hb⟩;refine ⟨_,rfl,?_⟩;have n0_:=Aside0.mk (Kd.R_mono (Kd.R_told (Kd.R_told (Kd.R_old (by (with_reducible repeat (first|apply Kd.R_alloc));exact HO_234000.out) hb) (Kd.R_base ho0)) (Kd.R_base ho1)) (fun _ h_=>h_.1));have n1_:=Aside0.mk (Kd.R_mono (Kd.R_told (Kd.R_told (Kd.R_old (by (with_reducible repeat (first|apply Kd.R_alloc));exact HO_234001.out) hb) (Kd.R_base ho0)) (Kd.R_base ho1)) (fun _ h_=>h_.1));have n2_:=Aside0.mk (Kd.R_mono (Kd.R_told (Kd.R_told (Kd.R_old (by (with_reducible repeat (first|apply Kd.R_alloc));exact HO_241000.out) hb) (Kd.R_base ho0)) (Kd.R_base ho1)) (fun _ h_=>h_.1));have n3_:=Aside0.mk (Kd.R_mono (Kd.R_told (Kd.R_told (Kd.R_old (by (with_reducible repeat (first|apply Kd.R_alloc));exact HO_241001.out) hb) (Kd.R_base ho0)) (Kd.R_base ho1)) (fun _ h_=>h_.1));have n4_:=Aside0.mk (Kd.R_mono (Kd.R_told (Kd.R_told (Kd.R_old (by (with_reducible repeat (first|apply Kd.R_alloc));exact HO_249000.out) hb) (Kd.R_base ho0)) (Kd.R_base ho1)) (fun _ h_=>h_.1));have n5_:=Aside0.mk (Kd.R_mono (Kd.R_told (Kd.R_told (Kd.R_old (by (with_reducible repeat (first|apply Kd.R_alloc));exact HO_249001.out) hb) (Kd.R_base ho0)) (Kd.R_base ho1)) (fun _ h_=>h_.1));have n6_:=Aside0.mk (Kd.R_mono (Kd.R_told (Kd.R_told (Kd.R_old (by (with_reducible repeat (first|apply Kd.R_alloc));exact HO267.out) hb) (Kd.R_base ho0)) (Kd.R_base ho1)) (fun _ h_=>h_.1));have n7_:=Aside0.mk (Kd.R_mono (Kd.R_told (Kd.R_told (Kd.R_old (by (with_reducible repeat (first|apply Kd.R_alloc));exact HO270.out) hb) (Kd.R_base ho0)) (Kd.R_base ho1)) (fun _ h_=>h_.1));have n8_:=Aside0.mk (Kd.R_lower (Kd.R_new' (Kd.R_new' (Kd.R_new' (Kd.R_new' (Kd.R_new' (Kd.R_new' (Kd.R_new' (Kd.R_new' (Kd.R_mono (ok':=fun k_=>some k_ ≠ (v275:Value).ownBlock) ho0 (fun _ hk_=>hk_.2)) (Kd.R_lt (by (with_reducible repeat (first|apply Kd.R_alloc));exact HO_234000.out))) (Kd.R_lt (by (with_reducible repeat (first|apply Kd.R_alloc));exact HO_234001.out))) (Kd.R_lt (by (with_reducible repeat (first|apply Kd.R_alloc));exact HO_241000.out))) (Kd.R_lt (by (with_reducible repeat (first|apply Kd.R_alloc));exact HO_241001.out))) (Kd.R_lt (by (with_reducible repeat (first|apply Kd.R_alloc));exact HO_249000.out))) (Kd.R_lt (by (with_reducible repeat (first|apply Kd.R_alloc));exact HO_249001.out))) (Kd.R_lt (by (with_reducible repeat (first|apply Kd.R_alloc));exact HO267.out))) (Kd.R_lt (by (with_reducible repeat (first|apply Kd.R_alloc));exact HO270.out))) (below_size (by repeat (first|(with_reducible first|exact HB.out|apply below_alloc|refine below_set ?_ GE218.out|refine below_set ?_ GE233.out|refine below_set ?_ GE240.out|refine below_set ?_ GE248.out)|exact HB.out))));have n9_:=Aside0.mk (Kd.R_lower (Kd.R_new' (Kd.R_new' (Kd.R_new' (Kd.R_new' (Kd.R_new' (Kd.R_new' (Kd.R_new' (Kd.R_new' (Kd.R_mono (ok':=fun k_=>some k_ ≠ (v272:Value).ownBlock) ho1 (fun _ hk_=>hk_.2)) (Kd.R_lt (by (with_reducible repeat (first|apply Kd.R_alloc));exact HO_234000.out))) (Kd.R_lt (by (with_reducible repeat (first|apply Kd.R_alloc));exact HO_234001.out))) (Kd.R_lt (by (with_reducible repeat (first|apply Kd.R_alloc));exact HO_241000.out))) (Kd.R_lt (by (with_reducible repeat (first|apply Kd.R_alloc));exact HO_241001.out))) (Kd.R_lt (by (with_reducible repeat (first|apply Kd.R_alloc));exact HO_249000.out))) (Kd.R_lt (by (with_reducible repeat (first|apply Kd.R_alloc));exact HO_249001.out))) (Kd.R_lt (by (with_reducible repeat (first|apply Kd.R_alloc));exact HO267.out))) (Kd.R_lt (by (with_reducible repeat (first|apply Kd.R_alloc));exact HO270.out))) (below_size (by repeat (first|(with_reducible first|exact HB.out|apply below_alloc|refine below_set ?_ GE218.out|refine below_set ?_ GE233.out|refine below_set ?_ GE240.out|refine below_set ?_ GE248.out)|exact HB.out))));have n10_:=Aside0.mk (blk_below (g:=gb218) (o:=.cells #[.slice A0_0 l0_0.length c0_0,.slice A0_1 l0_1.length c0_1] 30 (0,0)) (by (with_reducible repeat (refine blk_alloc ?_ _));exact BK218.out) hb);have n11_:=Aside0.mk (blk_below (g:=gb233) (o:=.cells #[.slice Ao23 t226.length co23,.slice Ao26 t229.length co26] 34 (0,0)) (by (with_reducible repeat (refine blk_alloc ?_ _));exact BK233.out) hb);have n12_:=Aside0.mk (blk_below (g:=gb240) (o:=.cells #[.slice Ao30 t258.length co30,.slice Ao34 t259.length co34] 34 (0,0)) (by (with_reducible repeat (refine blk_alloc ?_ _));exact BK240.out) hb);have n13_:=Aside0.mk (blk_below (g:=gb248) (o:=.cells #[.slice Ao39 t241.length co39,.slice Ao44 t244.length co44] 34 (0,0)) (by (with_reducible repeat (refine blk_alloc ?_ _));exact BK248.out) hb);have n14_:=Aside0.mk (below_step (by repeat (first|(with_reducible first|exact HB.out|apply below_alloc|refine below_set ?_ GE218.out|refine below_set ?_ GE233.out|refine below_set ?_ GE240.out|refine below_set ?_ GE248.out)|exact HB.out)) hb);clear HO_234000;clear HO_234001;clear HO_241000;clear HO_241001;clear HO_249000;clear HO_249001;clear HO267;clear HO270;clear BK218;clear BK233;clear BK240;clear BK248;clear HB;have HO_234000:=n0_;have HO_234001:=n1_;have HO_241000:=n2_;have HO_241001:=n3_;have HO_249000:=n4_;have HO_249001:=n5_;have HO267:=n6_;have HO270:=n7_;have HO273:=n8_;have HO276:=n9_;have BK218:=n10_;have BK233:=n11_;have BK240:=n12_;have BK248:=n13_;have HB:=n14_;clear n0_ n1_ n2_ n3_ n4_ n5_ n6_ n7_ n8_ n9_ n10_ n11_ n12_ n13_ n14_;(try clear hb);(try clear hb2);(try clear hk);(try clear hi);(try clear ho0);(try clear ho1))|((with_reducible refine gate_dst (N:=16) rfl ?_);refine box_event ?hg (N:=16) ?hd (cs:=#[.slice none 0 0,.slice none 0 0]) (t:=34) ?hr ?_;(case hd=>rfl);(case hg=>rfl);(case hr=>first|(go_simp;done)|(go_simp;rfl));intro gb278 hg w127 hbox hb;have n0_:=Aside0.mk (Kd.R_below (by (with_reducible repeat (first|apply Kd.R_alloc));exact HO_234000.out) hb);have n1_:=Aside0.mk (Kd.R_below (by (with_reducible repeat (first|apply Kd.R_alloc));exact HO_234001.out) hb);have n2_:=Aside0.mk (Kd.R_below (by (with_reducible repeat (first|apply Kd.R_alloc));exact HO_241000.out) hb);have n3_:=Aside0.mk (Kd.R_below (by (with_reducible repeat (first|apply Kd.R_alloc));exact HO_241001.out) hb);have n4_:=Aside0.mk (Kd.R_below (by (with_reducible repeat (first|apply Kd.R_alloc));exact HO_249000.out) hb);have n5_:=Aside0.mk (Kd.R_below (by (with_reducible repeat (first|apply Kd.R_alloc));exact HO_249001.out) hb);have n6_:=Aside0.mk (Kd.R_below (by (with_reducible repeat (first|apply Kd.R_alloc));exact HO267.out) hb);have n7_:=Aside0.mk (Kd.R_below (by (with_reducible repeat (first|apply Kd.R_alloc));exact HO270.out) hb);have n8_:=Aside0.mk (Kd.R_below (by (with_reducible repeat (first|apply Kd.R_alloc));exact HO273.out) hb);have n9_:=Aside0.mk (Kd.R_below (by (with_reducible repeat (first|apply Kd.R_alloc));exact HO276.out) hb);have n10_:=Aside0.mk (blk_below (g:=gb218) (o:=.cells #[.slice A0_0 l0_0.length c0_0,.slice A0_1 l0_1.length c0_1] 30 (0,0)) (by (with_reducible repeat (refine blk_alloc ?_ _));exact BK218.out) hb);have n11_:=Aside0.mk (blk_below (g:=gb233) (o:=.cells #[.slice Ao23 t226.length co23,.slice Ao26 t229.length co26] 34 (0,0)) (by (with_reducible repeat (refine blk_alloc ?_ _));exact BK233.out) hb);have n12_:=Aside0.mk (blk_below (g:=gb240) (o:=.cells #[.slice Ao30 t258.length co30,.slice Ao34 t259.length co34] 34 (0,0)) (by (with_reducible repeat (refine blk_alloc ?_ _));exact BK240.out) hb);have n13_:=Aside0.mk (blk_below (g:=gb248) (o:=.cells #[.slice Ao39 t241.length co39,.slice Ao44 t244.length co44] 34 (0,0)) (by (with_reducible repeat (refine blk_alloc ?_ _));exact BK248.out) hb);have n14_:=Aside0.mk (below_step (by repeat (first|(with_reducible first|exact HB.out|apply below_alloc|refine below_set ?_ GE218.out|refine below_set ?_ GE233.out|refine below_set ?_ GE240.out|refine below_set ?_ GE248.out)|exact HB.out)) hb);have n15_:=Aside0.mk (hbox);have n16_:=Aside0.mk ((by rw [hg];exact (below_size (by repeat (first|(with_reducible first|exact HB.out|apply below_alloc|refine below_set ?_ GE218.out|refine below_set ?_ GE233.out|refine below_set ?_ GE240.out|refine below_set ?_ GE248.out)|exact HB.out))):w.heap.size ≤ gb278));have n17_:=Aside0.mk ((by rw [hg];exact (below_size (by repeat (first|(with_reducible first|exact HB.out|apply below_alloc|refine below_set ?_ GE218.out|refine below_set ?_ GE233.out|refine below_set ?_ GE240.out|refine below_set ?_ GE248.out)|exact HB.out))):w.heap.size ≤ gb278));have n18_:=Aside0.mk ((by rw [hg];exact Nat.ne_of_lt (blk_lt (g:=gb218) (o:=.cells #[.slice A0_0 l0_0.length c0_0,.slice A0_1 l0_1.length c0_1] 30 (0,0)) (by (with_reducible repeat (refine blk_alloc ?_ _));exact BK218.out)):gb218 ≠ gb278));have n19_:=Aside0.mk ((by rw [hg];exact Nat.ne_of_gt (blk_lt (g:=gb218) (o:=.cells #[.slice A0_0 l0_0.length c0_0,.slice A0_1 l0_1.length c0_1] 30 (0,0)) (by (with_reducible repeat (refine blk_alloc ?_ _));exact BK218.out)):gb278 ≠ gb218));have n20_:=Aside0.mk ((by rw [hg];exact Nat.ne_of_lt (blk_lt (g:=gb233) (o:=.cells #[.slice Ao23 t226.length co23,.slice Ao26 t229.length co26] 34 (0,0)) (by (with_reducible repeat (refine blk_alloc ?_ _));exact BK233.out)):gb233 ≠ gb278));have n21_:=Aside0.mk ((by rw [hg];exact Nat.ne_of_gt (blk_lt (g:=gb233) (o:=.cells #[.slice Ao23 t226.length co23,.slice Ao26 t229.length co26] 34 (0,0)) (by (with_reducible repeat (refine blk_alloc ?_ _));exact BK233.out)):gb278 ≠ gb233));have n22_:=Aside0.mk ((by rw [hg];exact Nat.ne_of_lt (blk_lt (g:=gb240) (o:=.cells #[.slice Ao30 t258.length co30,.slice Ao34 t259.length co34] 34 (0,0)) (by (with_reducible repeat (refine blk_alloc ?_ _));exact BK240.out)):gb240 ≠ gb278));have n23_:=Aside0.mk ((by rw [hg];exact Nat.ne_of_gt (blk_lt (g:=gb240) (o:=.cells #[.slice Ao30 t258.length co30,.slice Ao34 t259.length co34] 34 (0,0)) (by (with_reducible repeat (refine blk_alloc ?_ _));exact BK240.out)):gb278 ≠ gb240));have n24_:=Aside0.mk ((by rw [hg];exact Nat.ne_of_lt (blk_lt (g:=gb248) (o:=.cells #[.slice Ao39 t241.length co39,.slice Ao44 t244.length co44] 34 (0,0)) (by (with_reducible repeat (refine blk_alloc ?_ _));exact BK248.out)):gb248 ≠ gb278));have n25_:=Aside0.mk ((by rw [hg];exact Nat.ne_of_gt (blk_lt (g:=gb248) (o:=.cells #[.slice Ao39 t241.length co39,.slice Ao44 t244.length co44] 34 (0,0)) (by (with_reducible repeat (refine blk_alloc ?_ _));exact BK248.out)):gb278 ≠ gb248));clear HO_234000;clear HO_234001;clear HO_241000;clear HO_241001;clear HO_249000;clear HO_249001;clear HO267;clear HO270;clear HO273;clear HO276;clear BK218;clear BK233;clear BK240;clear BK248;clear HB;have HO_234000:=n0_;have HO_234001:=n1_;have HO_241000:=n2_;have HO_241001:=n3_;have HO_249000:=n4_;have HO_249001:=n5_;have HO267:=n6_;have HO270:=n7_;have HO273:=n8_;have HO276:=n9_;have BK218:=n10_;have BK233:=n11_;have BK240:=n12_;have BK248:=n13_;have HB:=n14_;have BK278:=n15_;have GW278:=n16_;have GE278:=n17_;have NB218_278:=n18_;have NB278_218:=n19_;have NB233_278:=n20_;have NB278_233:=n21_;have NB240_278:=n22_;have NB278_240:=n23_;have NB248_278:=n24_;have NB278_248:=n25_;clear n0_ n1_ n2_ n3_ n4_ n5_ n6_ n7_ n8_ n9_ n10_ n11_ n12_ n13_ n14_ n15_ n16_ n17_ n18_ n19_ n20_ n21_ n22_ n23_ n24_ n25_;clear hb hbox hg;obtain ⟨Ao128,co128,eo128⟩:=Kd.R_slice HO273.out;subst eo128;have hnb129:=NB278_218.out;have hnc129:=NB218_278.out;have hnb130:=NB278_233.out;have hnc130:=NB233_278.out;have hnb131:=NB278_240.out;have hnc131:=NB240_278.out;have hnb132:=NB278_248.out;have hnc132:=NB248_278.out;have hcz133_0:w127.cell? ⟨gb278,0,none⟩ = some (.slice none 0 0):=(blk_cell BK278.out 0).trans rfl;have hcz133_1:w127.cell? ⟨gb278,1,none⟩ = some (.slice none 0 0):=(blk_cell BK278.out 1).trans rfl;have hfz133_0:=blk_frozen BK278.out 0;have hfz133_1:=blk_frozen BK278.out 1;obtain ⟨Ao134,co134,eo134⟩:=Kd.R_slice HO276.out;subst eo134))
           (try simp only [Act.put,List.setIfInBounds_toArray,List.set_cons_zero,List.set_cons_succ])
           go_cut [97] (fun v97 wc=>∃ (kq:Nat) (x97_111:Bool),v97 = .bool x97_111 ∧ Aside0 (laws_FnExactCrashDisk.j2 kq t261 x97_111 t262 t263 = some r) ∧ Aside0 (kq ≤ kj67) ∧ Aside0 (Kd.R Kd.string 9 wc w.heap.size (fun k_=>some k_ ≠ ((.slice Ao26 t229.length co26):Value).ownBlock ∧ some k_ ≠ ((.slice Ao30 t258.length co30):Value).ownBlock ∧ some k_ ≠ ((.slice Ao34 t259.length co34):Value).ownBlock ∧ some k_ ≠ ((.slice Ao39 t241.length co39):Value).ownBlock ∧ some k_ ≠ ((.slice Ao44 t244.length co44):Value).ownBlock ∧ some k_ ≠ ((.slice Ao128 t271.length co128):Value).ownBlock ∧ some k_ ≠ ((.slice Ao134 t274.length co134):Value).ownBlock) (.slice Ao23 t226.length co23) t226) ∧ Aside0 (Kd.R Kd.string 9 wc w.heap.size (fun k_=>some k_ ≠ ((.slice Ao23 t226.length co23):Value).ownBlock ∧ some k_ ≠ ((.slice Ao30 t258.length co30):Value).ownBlock ∧ some k_ ≠ ((.slice Ao34 t259.length co34):Value).ownBlock ∧ some k_ ≠ ((.slice Ao39 t241.length co39):Value).ownBlock ∧ some k_ ≠ ((.slice Ao44 t244.length co44):Value).ownBlock ∧ some k_ ≠ ((.slice Ao128 t271.length co128):Value).ownBlock ∧ some k_ ≠ ((.slice Ao134 t274.length co134):Value).ownBlock) (.slice Ao26 t229.length co26) t229) ∧ Aside0 (Kd.R Kd.string 9 wc w.heap.size (fun k_=>some k_ ≠ ((.slice Ao23 t226.length co23):Value).ownBlock ∧ some k_ ≠ ((.slice Ao26 t229.length co26):Value).ownBlock ∧ some k_ ≠ ((.slice Ao34 t259.length co34):Value).ownBlock ∧ some k_ ≠ ((.slice Ao39 t241.length co39):Value).ownBlock ∧ some k_ ≠ ((.slice Ao44 t244.length co44):Value).ownBlock ∧ some k_ ≠ ((.slice Ao128 t271.length co128):Value).ownBlock ∧ some k_ ≠ ((.slice Ao134 t274.length co134):Value).ownBlock) (.slice Ao30 t258.length co30) t258) ∧ Aside0 (Kd.R Kd.string 9 wc w.heap.size (fun k_=>some k_ ≠ ((.slice Ao23 t226.length co23):Value).ownBlock ∧ some k_ ≠ ((.slice Ao26 t229.length co26):Value).ownBlock ∧ some k_ ≠ ((.slice Ao30 t258.length co30):Value).ownBlock ∧ some k_ ≠ ((.slice Ao39 t241.length co39):Value).ownBlock ∧ some k_ ≠ ((.slice Ao44 t244.length co44):Value).ownBlock ∧ some k_ ≠ ((.slice Ao128 t271.length co128):Value).ownBlock ∧ some k_ ≠ ((.slice Ao134 t274.length co134):Value).ownBlock) (.slice Ao34 t259.length co34) t259) ∧ Aside0 (Kd.R Kd.string 9 wc w.heap.size (fun k_=>some k_ ≠ ((.slice Ao23 t226.length co23):Value).ownBlock ∧ some k_ ≠ ((.slice Ao26 t229.length co26):Value).ownBlock ∧ some k_ ≠ ((.slice Ao30 t258.length co30):Value).ownBlock ∧ some k_ ≠ ((.slice Ao34 t259.length co34):Value).ownBlock ∧ some k_ ≠ ((.slice Ao44 t244.length co44):Value).ownBlock ∧ some k_ ≠ ((.slice Ao128 t271.length co128):Value).ownBlock ∧ some k_ ≠ ((.slice Ao134 t274.length co134):Value).ownBlock) (.slice Ao39 t241.length co39) t262) ∧ Aside0 (Kd.R Kd.string 9 wc w.heap.size (fun k_=>some k_ ≠ ((.slice Ao23 t226.length co23):Value).ownBlock ∧ some k_ ≠ ((.slice Ao26 t229.length co26):Value).ownBlock ∧ some k_ ≠ ((.slice Ao30 t258.length co30):Value).ownBlock ∧ some k_ ≠ ((.slice Ao34 t259.length co34):Value).ownBlock ∧ some k_ ≠ ((.slice Ao39 t241.length co39):Value).ownBlock ∧ some k_ ≠ ((.slice Ao128 t271.length co128):Value).ownBlock ∧ some k_ ≠ ((.slice Ao134 t274.length co134):Value).ownBlock) (.slice Ao44 t244.length co44) t263) ∧ Aside0 (Kd.R Kd.string 9 wc w.heap.size (fun k_=>some k_ ≠ ((.slice Ao23 t226.length co23):Value).ownBlock ∧ some k_ ≠ ((.slice Ao26 t229.length co26):Value).ownBlock ∧ some k_ ≠ ((.slice Ao30 t258.length co30):Value).ownBlock ∧ some k_ ≠ ((.slice Ao34 t259.length co34):Value).ownBlock ∧ some k_ ≠ ((.slice Ao39 t241.length co39):Value).ownBlock ∧ some k_ ≠ ((.slice Ao44 t244.length co44):Value).ownBlock ∧ some k_ ≠ ((.slice Ao134 t274.length co134):Value).ownBlock) (.slice Ao128 t271.length co128) t271) ∧ Aside0 (Kd.R Kd.string 9 wc w.heap.size (fun k_=>some k_ ≠ ((.slice Ao23 t226.length co23):Value).ownBlock ∧ some k_ ≠ ((.slice Ao26 t229.length co26):Value).ownBlock ∧ some k_ ≠ ((.slice Ao30 t258.length co30):Value).ownBlock ∧ some k_ ≠ ((.slice Ao34 t259.length co34):Value).ownBlock ∧ some k_ ≠ ((.slice Ao39 t241.length co39):Value).ownBlock ∧ some k_ ≠ ((.slice Ao44 t244.length co44):Value).ownBlock ∧ some k_ ≠ ((.slice Ao128 t271.length co128):Value).ownBlock) (.slice Ao134 t274.length co134) t274) ∧ Aside0 (wc.heap[gb218]? = some (.cells #[(.slice A0_0 l0_0.length c0_0),(.slice A0_1 l0_1.length c0_1)] 30 (0,0))) ∧ Aside0 (wc.heap[gb233]? = some (.cells #[(.slice Ao23 t226.length co23),(.slice Ao26 t229.length co26)] 34 (0,0))) ∧ Aside0 (wc.heap[gb240]? = some (.cells #[(.slice Ao30 t258.length co30),(.slice Ao34 t259.length co34)] 34 (0,0))) ∧ Aside0 (wc.heap[gb248]? = some (.cells #[(.slice Ao39 t241.length co39),(.slice Ao44 t244.length co44)] 34 (0,0))) ∧ Aside0 (wc.heap[gb278]? = some (.cells #[(.slice Ao128 t271.length co128),(.slice Ao134 t274.length co134)] 34 (0,0))) ∧ Aside0 (Below w.heap.size w wc))
           case first =>
            have H:=HC112.out
            clear HC112
            replace H:=Option.bind_eq_some_iff.mp H
            obtain ⟨t279,A1350,H⟩:=H
            replace H:(if t279 = true then (laws_FnExactCrashDisk.j2 kj67 t261 (t277 != t232) t262 t263) else (laws_FnExactCrashDisk.j2 kj67 t261 true t262 t263)) = some r:=H
            have A135:=Aside0.mk A1350
            clear A1350
            by_cases c136:t279 = true
            ·subst c136
             have H1:(laws_FnExactCrashDisk.j2 kj67 t261 (t277 != t232) t262 t263) = some r:=by rw [if_pos rfl] at H;exact H
             clear H
             have H:=H1
             clear H1
             have H':=Aside0.mk H
             clear H
             have hnb137:=NB278_218.out
             have hnc137:=NB218_278.out
             have hnb138:=NB278_233.out
             have hnc138:=NB233_278.out
             have hnb139:=NB278_240.out
             have hnc139:=NB240_278.out
             have hnb140:=NB278_248.out
             have hnc140:=NB248_278.out
             have hcz141_0:w127.cell? ⟨gb278,0,none⟩ = some (.slice none 0 0):=(blk_cell BK278.out 0).trans rfl
             have hcz141_1:w127.cell? ⟨gb278,1,none⟩ = some (.slice none 0 0):=(blk_cell BK278.out 1).trans rfl
             have hfz141_0:=blk_frozen BK278.out 0
             have hfz141_1:=blk_frozen BK278.out 1
             have hnb142:=NB233_218.out
             have hnc142:=NB218_233.out
             have hnb143:=NB233_240.out
             have hnc143:=NB240_233.out
             have hnb144:=NB233_248.out
             have hnc144:=NB248_233.out
             have hcz145_0:w127.cell? ⟨gb233,0,none⟩ = some (.slice Ao23 t226.length co23):=(blk_cell BK233.out 0).trans rfl
             have hcz145_1:w127.cell? ⟨gb233,1,none⟩ = some (.slice Ao26 t229.length co26):=(blk_cell BK233.out 1).trans rfl
             have hfz145_0:=blk_frozen BK233.out 0
             have hfz145_1:=blk_frozen BK233.out 1
             go_wp2_with (first|((with_reducible refine gate_callee (f:=18) rfl ?_);refine goesL_ (some 91) rfl rfl Try.func18 (by kernel_rfl) rfl #[.agg #[.slice Ao128 t271.length co128,.slice Ao134 t274.length co134],.agg #[.slice Ao23 t226.length co23,.slice Ao26 t229.length co26]] rfl (by (try simp only [List.map_toArray,List.map_cons,List.map_nil]);first|done|rfl|(simp only [List.length_drop,List.length_take];rfl)) ?_;(with_reducible refine (laws_eqDisk.calls kj67 _ _ t271 _ _ t274 _ _ t226 _ _ t229 true _ ?side1 ?side2 ?side3 ?side4 ?side5 ?side6 ?side7 ?side8 A135.out).mono ?_);(case side1=>refine (Kd.R_reads' (e:=9) (base:=w.heap.size) (ok:=fun k_=>((((((((some k_ ≠ (.slice Ao134 t274.length co134:Value).ownBlock ∧ some k_ ≠ (.slice Ao23 t226.length co23:Value).ownBlock) ∧ some k_ ≠ (.slice Ao26 t229.length co26:Value).ownBlock) ∧ some k_ ≠ (.slice Ao30 t258.length co30:Value).ownBlock) ∧ some k_ ≠ (.slice Ao34 t259.length co34:Value).ownBlock) ∧ some k_ ≠ (.slice Ao39 t241.length co39:Value).ownBlock) ∧ some k_ ≠ (.slice Ao44 t244.length co44:Value).ownBlock) ∧ some k_ ≠ (.slice Ao124 t265.length co124:Value).ownBlock) ∧ some k_ ≠ (.slice Ao125 t268.length co125:Value).ownBlock)) (n:=t271.length) (c:=co128) ?_).2.2;exact (by (with_reducible repeat (first|apply Kd.R_alloc));exact (Kd.R_mono (Kd.R_far (p:=⟨gb278,1,none⟩) (Kd.R_far (p:=⟨gb278,0,none⟩) (Kd.R_types HO273.out BK278.out (by decide)) (fun _ hk=>hk.2) (.slice Ao128 t271.length co128)) (fun _ hk=>hk.2) (.slice Ao134 t274.length co134)) (fun _ h_=>h_.1))));(case side2=>exact (Kd.R_reads' HO273.out).2.1);(case side3=>refine (Kd.R_reads' (e:=9) (base:=w.heap.size) (ok:=fun k_=>((((((((some k_ ≠ (.slice Ao128 t271.length co128:Value).ownBlock ∧ some k_ ≠ (.slice Ao23 t226.length co23:Value).ownBlock) ∧ some k_ ≠ (.slice Ao26 t229.length co26:Value).ownBlock) ∧ some k_ ≠ (.slice Ao30 t258.length co30:Value).ownBlock) ∧ some k_ ≠ (.slice Ao34 t259.length co34:Value).ownBlock) ∧ some k_ ≠ (.slice Ao39 t241.length co39:Value).ownBlock) ∧ some k_ ≠ (.slice Ao44 t244.length co44:Value).ownBlock) ∧ some k_ ≠ (.slice Ao124 t265.length co124:Value).ownBlock) ∧ some k_ ≠ (.slice Ao125 t268.length co125:Value).ownBlock)) (n:=t274.length) (c:=co134) ?_).2.2;exact (by (with_reducible repeat (first|apply Kd.R_alloc));exact (Kd.R_mono (Kd.R_far (p:=⟨gb278,1,none⟩) (Kd.R_far (p:=⟨gb278,0,none⟩) (Kd.R_types HO276.out BK278.out (by decide)) (fun _ hk=>hk.2) (.slice Ao128 t271.length co128)) (fun _ hk=>hk.2) (.slice Ao134 t274.length co134)) (fun _ h_=>h_.1))));(case side4=>exact (Kd.R_reads' HO276.out).2.1);(case side5=>refine (Kd.R_reads' (e:=9) (base:=w.heap.size) (ok:=fun k_=>(((((some k_ ≠ (.slice Ao26 t229.length co26:Value).ownBlock ∧ (some k_ ≠ (.slice Ao30 t258.length co30:Value).ownBlock ∧ (some k_ ≠ (.slice Ao34 t259.length co34:Value).ownBlock ∧ (some k_ ≠ (.slice Ao39 t241.length co39:Value).ownBlock ∧ some k_ ≠ (.slice Ao44 t244.length co44:Value).ownBlock)))) ∧ some k_ ≠ (.slice Ao124 t265.length co124:Value).ownBlock) ∧ some k_ ≠ (.slice Ao125 t268.length co125:Value).ownBlock) ∧ some k_ ≠ (.slice Ao128 t271.length co128:Value).ownBlock) ∧ some k_ ≠ (.slice Ao134 t274.length co134:Value).ownBlock)) (n:=t226.length) (c:=co23) ?_).2.2;exact (by (with_reducible repeat (first|apply Kd.R_alloc));exact (Kd.R_mono (Kd.R_far (p:=⟨gb278,1,none⟩) (Kd.R_far (p:=⟨gb278,0,none⟩) (Kd.R_types HO_234000.out BK278.out (by decide)) (fun _ hk=>hk.2) (.slice Ao128 t271.length co128)) (fun _ hk=>hk.2) (.slice Ao134 t274.length co134)) (fun _ h_=>h_.1))));(case side6=>exact (Kd.R_reads' HO_234000.out).2.1);(case side7=>refine (Kd.R_reads' (e:=9) (base:=w.heap.size) (ok:=fun k_=>(((((some k_ ≠ (.slice Ao23 t226.length co23:Value).ownBlock ∧ (some k_ ≠ (.slice Ao30 t258.length co30:Value).ownBlock ∧ (some k_ ≠ (.slice Ao34 t259.length co34:Value).ownBlock ∧ (some k_ ≠ (.slice Ao39 t241.length co39:Value).ownBlock ∧ some k_ ≠ (.slice Ao44 t244.length co44:Value).ownBlock)))) ∧ some k_ ≠ (.slice Ao124 t265.length co124:Value).ownBlock) ∧ some k_ ≠ (.slice Ao125 t268.length co125:Value).ownBlock) ∧ some k_ ≠ (.slice Ao128 t271.length co128:Value).ownBlock) ∧ some k_ ≠ (.slice Ao134 t274.length co134:Value).ownBlock)) (n:=t229.length) (c:=co26) ?_).2.2;exact (by (with_reducible repeat (first|apply Kd.R_alloc));exact (Kd.R_mono (Kd.R_far (p:=⟨gb278,1,none⟩) (Kd.R_far (p:=⟨gb278,0,none⟩) (Kd.R_types HO_234001.out BK278.out (by decide)) (fun _ hk=>hk.2) (.slice Ao128 t271.length co128)) (fun _ hk=>hk.2) (.slice Ao134 t274.length co134)) (fun _ h_=>h_.1))));(case side8=>exact (Kd.R_reads' HO_234001.out).2.1);rintro e w146 ⟨rfl,hb⟩;refine ⟨_,rfl,?_⟩;have n0_:=Aside0.mk (Kd.R_below (by (with_reducible repeat (first|apply Kd.R_alloc));exact (Kd.R_mono (Kd.R_far (p:=⟨gb278,1,none⟩) (Kd.R_far (p:=⟨gb278,0,none⟩) (Kd.R_types HO_234000.out BK278.out (by decide)) (fun _ hk=>hk.2) (.slice Ao128 t271.length co128)) (fun _ hk=>hk.2) (.slice Ao134 t274.length co134)) (fun _ h_=>h_.1))) hb);have n1_:=Aside0.mk (Kd.R_below (by (with_reducible repeat (first|apply Kd.R_alloc));exact (Kd.R_mono (Kd.R_far (p:=⟨gb278,1,none⟩) (Kd.R_far (p:=⟨gb278,0,none⟩) (Kd.R_types HO_234001.out BK278.out (by decide)) (fun _ hk=>hk.2) (.slice Ao128 t271.length co128)) (fun _ hk=>hk.2) (.slice Ao134 t274.length co134)) (fun _ h_=>h_.1))) hb);have n2_:=Aside0.mk (Kd.R_below (by (with_reducible repeat (first|apply Kd.R_alloc));exact (Kd.R_mono (Kd.R_far (p:=⟨gb278,1,none⟩) (Kd.R_far (p:=⟨gb278,0,none⟩) (Kd.R_types HO_241000.out BK278.out (by decide)) (fun _ hk=>hk.2) (.slice Ao128 t271.length co128)) (fun _ hk=>hk.2) (.slice Ao134 t274.length co134)) (fun _ h_=>h_.1))) hb);have n3_:=Aside0.mk (Kd.R_below (by (with_reducible repeat (first|apply Kd.R_alloc));exact (Kd.R_mono (Kd.R_far (p:=⟨gb278,1,none⟩) (Kd.R_far (p:=⟨gb278,0,none⟩) (Kd.R_types HO_241001.out BK278.out (by decide)) (fun _ hk=>hk.2) (.slice Ao128 t271.length co128)) (fun _ hk=>hk.2) (.slice Ao134 t274.length co134)) (fun _ h_=>h_.1))) hb);have n4_:=Aside0.mk (Kd.R_below (by (with_reducible repeat (first|apply Kd.R_alloc));exact (Kd.R_mono (Kd.R_far (p:=⟨gb278,1,none⟩) (Kd.R_far (p:=⟨gb278,0,none⟩) (Kd.R_types HO_249000.out BK278.out (by decide)) (fun _ hk=>hk.2) (.slice Ao128 t271.length co128)) (fun _ hk=>hk.2) (.slice Ao134 t274.length co134)) (fun _ h_=>h_.1))) hb);have n5_:=Aside0.mk (Kd.R_below (by (with_reducible repeat (first|apply Kd.R_alloc));exact (Kd.R_mono (Kd.R_far (p:=⟨gb278,1,none⟩) (Kd.R_far (p:=⟨gb278,0,none⟩) (Kd.R_types HO_249001.out BK278.out (by decide)) (fun _ hk=>hk.2) (.slice Ao128 t271.length co128)) (fun _ hk=>hk.2) (.slice Ao134 t274.length co134)) (fun _ h_=>h_.1))) hb);have n6_:=Aside0.mk (Kd.R_below (by (with_reducible repeat (first|apply Kd.R_alloc));exact (Kd.R_mono (Kd.R_far (p:=⟨gb278,1,none⟩) (Kd.R_far (p:=⟨gb278,0,none⟩) (Kd.R_types HO267.out BK278.out (by decide)) (fun _ hk=>hk.2) (.slice Ao128 t271.length co128)) (fun _ hk=>hk.2) (.slice Ao134 t274.length co134)) (fun _ h_=>h_.1))) hb);have n7_:=Aside0.mk (Kd.R_below (by (with_reducible repeat (first|apply Kd.R_alloc));exact (Kd.R_mono (Kd.R_far (p:=⟨gb278,1,none⟩) (Kd.R_far (p:=⟨gb278,0,none⟩) (Kd.R_types HO270.out BK278.out (by decide)) (fun _ hk=>hk.2) (.slice Ao128 t271.length co128)) (fun _ hk=>hk.2) (.slice Ao134 t274.length co134)) (fun _ h_=>h_.1))) hb);have n8_:=Aside0.mk (Kd.R_below (by (with_reducible repeat (first|apply Kd.R_alloc));exact (Kd.R_mono (Kd.R_far (p:=⟨gb278,1,none⟩) (Kd.R_far (p:=⟨gb278,0,none⟩) (Kd.R_types HO273.out BK278.out (by decide)) (fun _ hk=>hk.2) (.slice Ao128 t271.length co128)) (fun _ hk=>hk.2) (.slice Ao134 t274.length co134)) (fun _ h_=>h_.1))) hb);have n9_:=Aside0.mk (Kd.R_below (by (with_reducible repeat (first|apply Kd.R_alloc));exact (Kd.R_mono (Kd.R_far (p:=⟨gb278,1,none⟩) (Kd.R_far (p:=⟨gb278,0,none⟩) (Kd.R_types HO276.out BK278.out (by decide)) (fun _ hk=>hk.2) (.slice Ao128 t271.length co128)) (fun _ hk=>hk.2) (.slice Ao134 t274.length co134)) (fun _ h_=>h_.1))) hb);have n10_:=Aside0.mk (blk_below (g:=gb218) (o:=.cells #[.slice A0_0 l0_0.length c0_0,.slice A0_1 l0_1.length c0_1] 30 (0,0)) (by (with_reducible repeat (refine blk_alloc ?_ _));refine blk_far ?_ NB218_278.out _;(with_reducible repeat (refine blk_alloc ?_ _));refine blk_far ?_ NB218_278.out _;(with_reducible repeat (refine blk_alloc ?_ _));exact BK218.out) hb);have n11_:=Aside0.mk (blk_below (g:=gb233) (o:=.cells #[.slice Ao23 t226.length co23,.slice Ao26 t229.length co26] 34 (0,0)) (by (with_reducible repeat (refine blk_alloc ?_ _));refine blk_far ?_ NB233_278.out _;(with_reducible repeat (refine blk_alloc ?_ _));refine blk_far ?_ NB233_278.out _;(with_reducible repeat (refine blk_alloc ?_ _));exact BK233.out) hb);have n12_:=Aside0.mk (blk_below (g:=gb240) (o:=.cells #[.slice Ao30 t258.length co30,.slice Ao34 t259.length co34] 34 (0,0)) (by (with_reducible repeat (refine blk_alloc ?_ _));refine blk_far ?_ NB240_278.out _;(with_reducible repeat (refine blk_alloc ?_ _));refine blk_far ?_ NB240_278.out _;(with_reducible repeat (refine blk_alloc ?_ _));exact BK240.out) hb);have n13_:=Aside0.mk (blk_below (g:=gb248) (o:=.cells #[.slice Ao39 t241.length co39,.slice Ao44 t244.length co44] 34 (0,0)) (by (with_reducible repeat (refine blk_alloc ?_ _));refine blk_far ?_ NB248_278.out _;(with_reducible repeat (refine blk_alloc ?_ _));refine blk_far ?_ NB248_278.out _;(with_reducible repeat (refine blk_alloc ?_ _));exact BK248.out) hb);have n14_:=Aside0.mk (blk_below (g:=gb278) (o:=.cells #[.slice Ao128 t271.length co128,.slice Ao134 t274.length co134] 34 (0,0)) (by (with_reducible repeat (refine blk_alloc ?_ _));refine blk_put (cs:=#[.slice Ao128 t271.length co128,.slice none 0 0]) ?_ 1 _ rfl;(with_reducible repeat (refine blk_alloc ?_ _));refine blk_put (cs:=#[.slice none 0 0,.slice none 0 0]) ?_ 0 _ rfl;(with_reducible repeat (refine blk_alloc ?_ _));exact BK278.out) hb);have n15_:=Aside0.mk (below_step (by repeat (first|(with_reducible first|exact HB.out|apply below_alloc|refine below_set ?_ GE218.out|refine below_set ?_ GE233.out|refine below_set ?_ GE240.out|refine below_set ?_ GE248.out|refine below_set ?_ GE278.out)|exact HB.out)) hb);clear HO_234000;clear HO_234001;clear HO_241000;clear HO_241001;clear HO_249000;clear HO_249001;clear HO267;clear HO270;clear HO273;clear HO276;clear BK218;clear BK233;clear BK240;clear BK248;clear BK278;clear HB;have HO_234000:=n0_;have HO_234001:=n1_;have HO_241000:=n2_;have HO_241001:=n3_;have HO_249000:=n4_;have HO_249001:=n5_;have HO267:=n6_;have HO270:=n7_;have HO273:=n8_;have HO276:=n9_;have BK218:=n10_;have BK233:=n11_;have BK240:=n12_;have BK248:=n13_;have BK278:=n14_;have HB:=n15_;clear n0_ n1_ n2_ n3_ n4_ n5_ n6_ n7_ n8_ n9_ n10_ n11_ n12_ n13_ n14_ n15_;(try clear hb);(try clear hb2);(try clear hk);(try clear hi)))
             go_meet
             case rel=>exact ⟨_,((t277 != t232)),(by first|rfl|(simp;done)|(simp [*];done)),H',⟨by have:=HJ12.out;have:=HJ67.out;first|omega|exact Nat.le_refl _⟩,⟨by (try simp only [hl241000_67]);(try simp only [hl241001_67]);(with_reducible repeat (first|apply Kd.R_alloc));exact Kd.R_mono HO_234000.out (fun _ hk=>⟨hk.1.1.1.1.1,⟨hk.1.1.1.1.2.1,⟨hk.1.1.1.1.2.2.1,⟨hk.1.1.1.1.2.2.2.1,⟨hk.1.1.1.1.2.2.2.2,⟨hk.1.2,hk.2⟩⟩⟩⟩⟩⟩)⟩,⟨by (try simp only [hl241000_67]);(try simp only [hl241001_67]);(with_reducible repeat (first|apply Kd.R_alloc));exact Kd.R_mono HO_234001.out (fun _ hk=>⟨hk.1.1.1.1.1,⟨hk.1.1.1.1.2.1,⟨hk.1.1.1.1.2.2.1,⟨hk.1.1.1.1.2.2.2.1,⟨hk.1.1.1.1.2.2.2.2,⟨hk.1.2,hk.2⟩⟩⟩⟩⟩⟩)⟩,⟨by (try simp only [hl241000_67]);(try simp only [hl241001_67]);(with_reducible repeat (first|apply Kd.R_alloc));exact Kd.R_mono HO_241000.out (fun _ hk=>⟨hk.1.1.1.1.1,⟨hk.1.1.1.1.2.1,⟨hk.1.1.1.1.2.2.1,⟨hk.1.1.1.1.2.2.2.1,⟨hk.1.1.1.1.2.2.2.2,⟨hk.1.2,hk.2⟩⟩⟩⟩⟩⟩)⟩,⟨by (try simp only [hl241000_67]);(try simp only [hl241001_67]);(with_reducible repeat (first|apply Kd.R_alloc));exact Kd.R_mono HO_241001.out (fun _ hk=>⟨hk.1.1.1.1.1,⟨hk.1.1.1.1.2.1,⟨hk.1.1.1.1.2.2.1,⟨hk.1.1.1.1.2.2.2.1,⟨hk.1.1.1.1.2.2.2.2,⟨hk.1.2,hk.2⟩⟩⟩⟩⟩⟩)⟩,⟨by (try simp only [hl241000_67]);(try simp only [hl241001_67]);(with_reducible repeat (first|apply Kd.R_alloc));exact Kd.R_mono HO_249000.out (fun _ hk=>⟨hk.1.1.1.1.1,⟨hk.1.1.1.1.2.1,⟨hk.1.1.1.1.2.2.1,⟨hk.1.1.1.1.2.2.2.1,⟨hk.1.1.1.1.2.2.2.2,⟨hk.1.2,hk.2⟩⟩⟩⟩⟩⟩)⟩,⟨by (try simp only [hl241000_67]);(try simp only [hl241001_67]);(with_reducible repeat (first|apply Kd.R_alloc));exact Kd.R_mono HO_249001.out (fun _ hk=>⟨hk.1.1.1.1.1,⟨hk.1.1.1.1.2.1,⟨hk.1.1.1.1.2.2.1,⟨hk.1.1.1.1.2.2.2.1,⟨hk.1.1.1.1.2.2.2.2,⟨hk.1.2,hk.2⟩⟩⟩⟩⟩⟩)⟩,⟨by (try simp only [hl241000_67]);(try simp only [hl241001_67]);(with_reducible repeat (first|apply Kd.R_alloc));exact Kd.R_mono HO273.out (fun _ hk=>⟨hk.1.1.1.1.1.1.1.2,⟨hk.1.1.1.1.1.1.2,⟨hk.1.1.1.1.1.2,⟨hk.1.1.1.1.2,⟨hk.1.1.1.2,⟨hk.1.1.2,hk.1.1.1.1.1.1.1.1⟩⟩⟩⟩⟩⟩)⟩,⟨by (try simp only [hl241000_67]);(try simp only [hl241001_67]);(with_reducible repeat (first|apply Kd.R_alloc));exact Kd.R_mono HO276.out (fun _ hk=>⟨hk.1.1.1.1.1.1.1.2,⟨hk.1.1.1.1.1.1.2,⟨hk.1.1.1.1.1.2,⟨hk.1.1.1.1.2,⟨hk.1.1.1.2,⟨hk.1.1.2,hk.1.1.1.1.1.1.1.1⟩⟩⟩⟩⟩⟩)⟩,⟨by (try simp only [hl241000_67]);(try simp only [hl241001_67]);(with_reducible repeat (refine blk_alloc ?_ _));exact BK218.out⟩,⟨by (try simp only [hl241000_67]);(try simp only [hl241001_67]);(with_reducible repeat (refine blk_alloc ?_ _));exact BK233.out⟩,⟨by (try simp only [hl241000_67]);(try simp only [hl241001_67]);(with_reducible repeat (refine blk_alloc ?_ _));exact BK240.out⟩,⟨by (try simp only [hl241000_67]);(try simp only [hl241001_67]);(with_reducible repeat (refine blk_alloc ?_ _));exact BK248.out⟩,⟨by (try simp only [hl241000_67]);(try simp only [hl241001_67]);(with_reducible repeat (refine blk_alloc ?_ _));exact BK278.out⟩,⟨by repeat (first|(with_reducible first|exact HB.out|apply below_alloc|refine below_set ?_ GE218.out|refine below_set ?_ GE233.out|refine below_set ?_ GE240.out|refine below_set ?_ GE248.out|refine below_set ?_ GE278.out)|exact HB.out)⟩⟩
            ·replace c136:=Bool.eq_false_iff.mpr c136
             subst c136
             have H1:(laws_FnExactCrashDisk.j2 kj67 t261 true t262 t263) = some r:=by rw [if_neg (show ¬ (false = true) by decide)] at H;exact H
             clear H
             have H:=H1
             clear H1
             have H':=Aside0.mk H
             clear H
             have hnb147:=NB278_218.out
             have hnc147:=NB218_278.out
             have hnb148:=NB278_233.out
             have hnc148:=NB233_278.out
             have hnb149:=NB278_240.out
             have hnc149:=NB240_278.out
             have hnb150:=NB278_248.out
             have hnc150:=NB248_278.out
             have hcz151_0:w127.cell? ⟨gb278,0,none⟩ = some (.slice none 0 0):=(blk_cell BK278.out 0).trans rfl
             have hcz151_1:w127.cell? ⟨gb278,1,none⟩ = some (.slice none 0 0):=(blk_cell BK278.out 1).trans rfl
             have hfz151_0:=blk_frozen BK278.out 0
             have hfz151_1:=blk_frozen BK278.out 1
             have hnb152:=NB233_218.out
             have hnc152:=NB218_233.out
             have hnb153:=NB233_240.out
             have hnc153:=NB240_233.out
             have hnb154:=NB233_248.out
             have hnc154:=NB248_233.out
             have hcz155_0:w127.cell? ⟨gb233,0,none⟩ = some (.slice Ao23 t226.length co23):=(blk_cell BK233.out 0).trans rfl
             have hcz155_1:w127.cell? ⟨gb233,1,none⟩ = some (.slice Ao26 t229.length co26):=(blk_cell BK233.out 1).trans rfl
             have hfz155_0:=blk_frozen BK233.out 0
             have hfz155_1:=blk_frozen BK233.out 1
             go_wp2_with (first|((with_reducible refine gate_callee (f:=18) rfl ?_);refine goesL_ (some 91) rfl rfl Try.func18 (by kernel_rfl) rfl #[.agg #[.slice Ao128 t271.length co128,.slice Ao134 t274.length co134],.agg #[.slice Ao23 t226.length co23,.slice Ao26 t229.length co26]] rfl (by (try simp only [List.map_toArray,List.map_cons,List.map_nil]);first|done|rfl|(simp only [List.length_drop,List.length_take];rfl)) ?_;(with_reducible refine (laws_eqDisk.calls kj67 _ _ t271 _ _ t274 _ _ t226 _ _ t229 false _ ?side1 ?side2 ?side3 ?side4 ?side5 ?side6 ?side7 ?side8 A135.out).mono ?_);(case side1=>refine (Kd.R_reads' (e:=9) (base:=w.heap.size) (ok:=fun k_=>((((((((some k_ ≠ (.slice Ao134 t274.length co134:Value).ownBlock ∧ some k_ ≠ (.slice Ao23 t226.length co23:Value).ownBlock) ∧ some k_ ≠ (.slice Ao26 t229.length co26:Value).ownBlock) ∧ some k_ ≠ (.slice Ao30 t258.length co30:Value).ownBlock) ∧ some k_ ≠ (.slice Ao34 t259.length co34:Value).ownBlock) ∧ some k_ ≠ (.slice Ao39 t241.length co39:Value).ownBlock) ∧ some k_ ≠ (.slice Ao44 t244.length co44:Value).ownBlock) ∧ some k_ ≠ (.slice Ao124 t265.length co124:Value).ownBlock) ∧ some k_ ≠ (.slice Ao125 t268.length co125:Value).ownBlock)) (n:=t271.length) (c:=co128) ?_).2.2;exact (by (with_reducible repeat (first|apply Kd.R_alloc));exact (Kd.R_mono (Kd.R_far (p:=⟨gb278,1,none⟩) (Kd.R_far (p:=⟨gb278,0,none⟩) (Kd.R_types HO273.out BK278.out (by decide)) (fun _ hk=>hk.2) (.slice Ao128 t271.length co128)) (fun _ hk=>hk.2) (.slice Ao134 t274.length co134)) (fun _ h_=>h_.1))));(case side2=>exact (Kd.R_reads' HO273.out).2.1);(case side3=>refine (Kd.R_reads' (e:=9) (base:=w.heap.size) (ok:=fun k_=>((((((((some k_ ≠ (.slice Ao128 t271.length co128:Value).ownBlock ∧ some k_ ≠ (.slice Ao23 t226.length co23:Value).ownBlock) ∧ some k_ ≠ (.slice Ao26 t229.length co26:Value).ownBlock) ∧ some k_ ≠ (.slice Ao30 t258.length co30:Value).ownBlock) ∧ some k_ ≠ (.slice Ao34 t259.length co34:Value).ownBlock) ∧ some k_ ≠ (.slice Ao39 t241.length co39:Value).ownBlock) ∧ some k_ ≠ (.slice Ao44 t244.length co44:Value).ownBlock) ∧ some k_ ≠ (.slice Ao124 t265.length co124:Value).ownBlock) ∧ some k_ ≠ (.slice Ao125 t268.length co125:Value).ownBlock)) (n:=t274.length) (c:=co134) ?_).2.2;exact (by (with_reducible repeat (first|apply Kd.R_alloc));exact (Kd.R_mono (Kd.R_far (p:=⟨gb278,1,none⟩) (Kd.R_far (p:=⟨gb278,0,none⟩) (Kd.R_types HO276.out BK278.out (by decide)) (fun _ hk=>hk.2) (.slice Ao128 t271.length co128)) (fun _ hk=>hk.2) (.slice Ao134 t274.length co134)) (fun _ h_=>h_.1))));(case side4=>exact (Kd.R_reads' HO276.out).2.1);(case side5=>refine (Kd.R_reads' (e:=9) (base:=w.heap.size) (ok:=fun k_=>(((((some k_ ≠ (.slice Ao26 t229.length co26:Value).ownBlock ∧ (some k_ ≠ (.slice Ao30 t258.length co30:Value).ownBlock ∧ (some k_ ≠ (.slice Ao34 t259.length co34:Value).ownBlock ∧ (some k_ ≠ (.slice Ao39 t241.length co39:Value).ownBlock ∧ some k_ ≠ (.slice Ao44 t244.length co44:Value).ownBlock)))) ∧ some k_ ≠ (.slice Ao124 t265.length co124:Value).ownBlock) ∧ some k_ ≠ (.slice Ao125 t268.length co125:Value).ownBlock) ∧ some k_ ≠ (.slice Ao128 t271.length co128:Value).ownBlock) ∧ some k_ ≠ (.slice Ao134 t274.length co134:Value).ownBlock)) (n:=t226.length) (c:=co23) ?_).2.2;exact (by (with_reducible repeat (first|apply Kd.R_alloc));exact (Kd.R_mono (Kd.R_far (p:=⟨gb278,1,none⟩) (Kd.R_far (p:=⟨gb278,0,none⟩) (Kd.R_types HO_234000.out BK278.out (by decide)) (fun _ hk=>hk.2) (.slice Ao128 t271.length co128)) (fun _ hk=>hk.2) (.slice Ao134 t274.length co134)) (fun _ h_=>h_.1))));(case side6=>exact (Kd.R_reads' HO_234000.out).2.1);(case side7=>refine (Kd.R_reads' (e:=9) (base:=w.heap.size) (ok:=fun k_=>(((((some k_ ≠ (.slice Ao23 t226.length co23:Value).ownBlock ∧ (some k_ ≠ (.slice Ao30 t258.length co30:Value).ownBlock ∧ (some k_ ≠ (.slice Ao34 t259.length co34:Value).ownBlock ∧ (some k_ ≠ (.slice Ao39 t241.length co39:Value).ownBlock ∧ some k_ ≠ (.slice Ao44 t244.length co44:Value).ownBlock)))) ∧ some k_ ≠ (.slice Ao124 t265.length co124:Value).ownBlock) ∧ some k_ ≠ (.slice Ao125 t268.length co125:Value).ownBlock) ∧ some k_ ≠ (.slice Ao128 t271.length co128:Value).ownBlock) ∧ some k_ ≠ (.slice Ao134 t274.length co134:Value).ownBlock)) (n:=t229.length) (c:=co26) ?_).2.2;exact (by (with_reducible repeat (first|apply Kd.R_alloc));exact (Kd.R_mono (Kd.R_far (p:=⟨gb278,1,none⟩) (Kd.R_far (p:=⟨gb278,0,none⟩) (Kd.R_types HO_234001.out BK278.out (by decide)) (fun _ hk=>hk.2) (.slice Ao128 t271.length co128)) (fun _ hk=>hk.2) (.slice Ao134 t274.length co134)) (fun _ h_=>h_.1))));(case side8=>exact (Kd.R_reads' HO_234001.out).2.1);rintro e w156 ⟨rfl,hb⟩;refine ⟨_,rfl,?_⟩;have n0_:=Aside0.mk (Kd.R_below (by (with_reducible repeat (first|apply Kd.R_alloc));exact (Kd.R_mono (Kd.R_far (p:=⟨gb278,1,none⟩) (Kd.R_far (p:=⟨gb278,0,none⟩) (Kd.R_types HO_234000.out BK278.out (by decide)) (fun _ hk=>hk.2) (.slice Ao128 t271.length co128)) (fun _ hk=>hk.2) (.slice Ao134 t274.length co134)) (fun _ h_=>h_.1))) hb);have n1_:=Aside0.mk (Kd.R_below (by (with_reducible repeat (first|apply Kd.R_alloc));exact (Kd.R_mono (Kd.R_far (p:=⟨gb278,1,none⟩) (Kd.R_far (p:=⟨gb278,0,none⟩) (Kd.R_types HO_234001.out BK278.out (by decide)) (fun _ hk=>hk.2) (.slice Ao128 t271.length co128)) (fun _ hk=>hk.2) (.slice Ao134 t274.length co134)) (fun _ h_=>h_.1))) hb);have n2_:=Aside0.mk (Kd.R_below (by (with_reducible repeat (first|apply Kd.R_alloc));exact (Kd.R_mono (Kd.R_far (p:=⟨gb278,1,none⟩) (Kd.R_far (p:=⟨gb278,0,none⟩) (Kd.R_types HO_241000.out BK278.out (by decide)) (fun _ hk=>hk.2) (.slice Ao128 t271.length co128)) (fun _ hk=>hk.2) (.slice Ao134 t274.length co134)) (fun _ h_=>h_.1))) hb);have n3_:=Aside0.mk (Kd.R_below (by (with_reducible repeat (first|apply Kd.R_alloc));exact (Kd.R_mono (Kd.R_far (p:=⟨gb278,1,none⟩) (Kd.R_far (p:=⟨gb278,0,none⟩) (Kd.R_types HO_241001.out BK278.out (by decide)) (fun _ hk=>hk.2) (.slice Ao128 t271.length co128)) (fun _ hk=>hk.2) (.slice Ao134 t274.length co134)) (fun _ h_=>h_.1))) hb);have n4_:=Aside0.mk (Kd.R_below (by (with_reducible repeat (first|apply Kd.R_alloc));exact (Kd.R_mono (Kd.R_far (p:=⟨gb278,1,none⟩) (Kd.R_far (p:=⟨gb278,0,none⟩) (Kd.R_types HO_249000.out BK278.out (by decide)) (fun _ hk=>hk.2) (.slice Ao128 t271.length co128)) (fun _ hk=>hk.2) (.slice Ao134 t274.length co134)) (fun _ h_=>h_.1))) hb);have n5_:=Aside0.mk (Kd.R_below (by (with_reducible repeat (first|apply Kd.R_alloc));exact (Kd.R_mono (Kd.R_far (p:=⟨gb278,1,none⟩) (Kd.R_far (p:=⟨gb278,0,none⟩) (Kd.R_types HO_249001.out BK278.out (by decide)) (fun _ hk=>hk.2) (.slice Ao128 t271.length co128)) (fun _ hk=>hk.2) (.slice Ao134 t274.length co134)) (fun _ h_=>h_.1))) hb);have n6_:=Aside0.mk (Kd.R_below (by (with_reducible repeat (first|apply Kd.R_alloc));exact (Kd.R_mono (Kd.R_far (p:=⟨gb278,1,none⟩) (Kd.R_far (p:=⟨gb278,0,none⟩) (Kd.R_types HO267.out BK278.out (by decide)) (fun _ hk=>hk.2) (.slice Ao128 t271.length co128)) (fun _ hk=>hk.2) (.slice Ao134 t274.length co134)) (fun _ h_=>h_.1))) hb);have n7_:=Aside0.mk (Kd.R_below (by (with_reducible repeat (first|apply Kd.R_alloc));exact (Kd.R_mono (Kd.R_far (p:=⟨gb278,1,none⟩) (Kd.R_far (p:=⟨gb278,0,none⟩) (Kd.R_types HO270.out BK278.out (by decide)) (fun _ hk=>hk.2) (.slice Ao128 t271.length co128)) (fun _ hk=>hk.2) (.slice Ao134 t274.length co134)) (fun _ h_=>h_.1))) hb);have n8_:=Aside0.mk (Kd.R_below (by (with_reducible repeat (first|apply Kd.R_alloc));exact (Kd.R_mono (Kd.R_far (p:=⟨gb278,1,none⟩) (Kd.R_far (p:=⟨gb278,0,none⟩) (Kd.R_types HO273.out BK278.out (by decide)) (fun _ hk=>hk.2) (.slice Ao128 t271.length co128)) (fun _ hk=>hk.2) (.slice Ao134 t274.length co134)) (fun _ h_=>h_.1))) hb);have n9_:=Aside0.mk (Kd.R_below (by (with_reducible repeat (first|apply Kd.R_alloc));exact (Kd.R_mono (Kd.R_far (p:=⟨gb278,1,none⟩) (Kd.R_far (p:=⟨gb278,0,none⟩) (Kd.R_types HO276.out BK278.out (by decide)) (fun _ hk=>hk.2) (.slice Ao128 t271.length co128)) (fun _ hk=>hk.2) (.slice Ao134 t274.length co134)) (fun _ h_=>h_.1))) hb);have n10_:=Aside0.mk (blk_below (g:=gb218) (o:=.cells #[.slice A0_0 l0_0.length c0_0,.slice A0_1 l0_1.length c0_1] 30 (0,0)) (by (with_reducible repeat (refine blk_alloc ?_ _));refine blk_far ?_ NB218_278.out _;(with_reducible repeat (refine blk_alloc ?_ _));refine blk_far ?_ NB218_278.out _;(with_reducible repeat (refine blk_alloc ?_ _));exact BK218.out) hb);have n11_:=Aside0.mk (blk_below (g:=gb233) (o:=.cells #[.slice Ao23 t226.length co23,.slice Ao26 t229.length co26] 34 (0,0)) (by (with_reducible repeat (refine blk_alloc ?_ _));refine blk_far ?_ NB233_278.out _;(with_reducible repeat (refine blk_alloc ?_ _));refine blk_far ?_ NB233_278.out _;(with_reducible repeat (refine blk_alloc ?_ _));exact BK233.out) hb);have n12_:=Aside0.mk (blk_below (g:=gb240) (o:=.cells #[.slice Ao30 t258.length co30,.slice Ao34 t259.length co34] 34 (0,0)) (by (with_reducible repeat (refine blk_alloc ?_ _));refine blk_far ?_ NB240_278.out _;(with_reducible repeat (refine blk_alloc ?_ _));refine blk_far ?_ NB240_278.out _;(with_reducible repeat (refine blk_alloc ?_ _));exact BK240.out) hb);have n13_:=Aside0.mk (blk_below (g:=gb248) (o:=.cells #[.slice Ao39 t241.length co39,.slice Ao44 t244.length co44] 34 (0,0)) (by (with_reducible repeat (refine blk_alloc ?_ _));refine blk_far ?_ NB248_278.out _;(with_reducible repeat (refine blk_alloc ?_ _));refine blk_far ?_ NB248_278.out _;(with_reducible repeat (refine blk_alloc ?_ _));exact BK248.out) hb);have n14_:=Aside0.mk (blk_below (g:=gb278) (o:=.cells #[.slice Ao128 t271.length co128,.slice Ao134 t274.length co134] 34 (0,0)) (by (with_reducible repeat (refine blk_alloc ?_ _));refine blk_put (cs:=#[.slice Ao128 t271.length co128,.slice none 0 0]) ?_ 1 _ rfl;(with_reducible repeat (refine blk_alloc ?_ _));refine blk_put (cs:=#[.slice none 0 0,.slice none 0 0]) ?_ 0 _ rfl;(with_reducible repeat (refine blk_alloc ?_ _));exact BK278.out) hb);have n15_:=Aside0.mk (below_step (by repeat (first|(with_reducible first|exact HB.out|apply below_alloc|refine below_set ?_ GE218.out|refine below_set ?_ GE233.out|refine below_set ?_ GE240.out|refine below_set ?_ GE248.out|refine below_set ?_ GE278.out)|exact HB.out)) hb);clear HO_234000;clear HO_234001;clear HO_241000;clear HO_241001;clear HO_249000;clear HO_249001;clear HO267;clear HO270;clear HO273;clear HO276;clear BK218;clear BK233;clear BK240;clear BK248;clear BK278;clear HB;have HO_234000:=n0_;have HO_234001:=n1_;have HO_241000:=n2_;have HO_241001:=n3_;have HO_249000:=n4_;have HO_249001:=n5_;have HO267:=n6_;have HO270:=n7_;have HO273:=n8_;have HO276:=n9_;have BK218:=n10_;have BK233:=n11_;have BK240:=n12_;have BK248:=n13_;have BK278:=n14_;have HB:=n15_;clear n0_ n1_ n2_ n3_ n4_ n5_ n6_ n7_ n8_ n9_ n10_ n11_ n12_ n13_ n14_ n15_;(try clear hb);(try clear hb2);(try clear hk);(try clear hi)))
             go_meet
             case rel=>exact ⟨_,(true),(by first|rfl|(simp;done)|(simp [*];done)),H',⟨by have:=HJ12.out;have:=HJ67.out;first|omega|exact Nat.le_refl _⟩,⟨by (try simp only [hl241000_67]);(try simp only [hl241001_67]);(with_reducible repeat (first|apply Kd.R_alloc));exact Kd.R_mono HO_234000.out (fun _ hk=>⟨hk.1.1.1.1.1,⟨hk.1.1.1.1.2.1,⟨hk.1.1.1.1.2.2.1,⟨hk.1.1.1.1.2.2.2.1,⟨hk.1.1.1.1.2.2.2.2,⟨hk.1.2,hk.2⟩⟩⟩⟩⟩⟩)⟩,⟨by (try simp only [hl241000_67]);(try simp only [hl241001_67]);(with_reducible repeat (first|apply Kd.R_alloc));exact Kd.R_mono HO_234001.out (fun _ hk=>⟨hk.1.1.1.1.1,⟨hk.1.1.1.1.2.1,⟨hk.1.1.1.1.2.2.1,⟨hk.1.1.1.1.2.2.2.1,⟨hk.1.1.1.1.2.2.2.2,⟨hk.1.2,hk.2⟩⟩⟩⟩⟩⟩)⟩,⟨by (try simp only [hl241000_67]);(try simp only [hl241001_67]);(with_reducible repeat (first|apply Kd.R_alloc));exact Kd.R_mono HO_241000.out (fun _ hk=>⟨hk.1.1.1.1.1,⟨hk.1.1.1.1.2.1,⟨hk.1.1.1.1.2.2.1,⟨hk.1.1.1.1.2.2.2.1,⟨hk.1.1.1.1.2.2.2.2,⟨hk.1.2,hk.2⟩⟩⟩⟩⟩⟩)⟩,⟨by (try simp only [hl241000_67]);(try simp only [hl241001_67]);(with_reducible repeat (first|apply Kd.R_alloc));exact Kd.R_mono HO_241001.out (fun _ hk=>⟨hk.1.1.1.1.1,⟨hk.1.1.1.1.2.1,⟨hk.1.1.1.1.2.2.1,⟨hk.1.1.1.1.2.2.2.1,⟨hk.1.1.1.1.2.2.2.2,⟨hk.1.2,hk.2⟩⟩⟩⟩⟩⟩)⟩,⟨by (try simp only [hl241000_67]);(try simp only [hl241001_67]);(with_reducible repeat (first|apply Kd.R_alloc));exact Kd.R_mono HO_249000.out (fun _ hk=>⟨hk.1.1.1.1.1,⟨hk.1.1.1.1.2.1,⟨hk.1.1.1.1.2.2.1,⟨hk.1.1.1.1.2.2.2.1,⟨hk.1.1.1.1.2.2.2.2,⟨hk.1.2,hk.2⟩⟩⟩⟩⟩⟩)⟩,⟨by (try simp only [hl241000_67]);(try simp only [hl241001_67]);(with_reducible repeat (first|apply Kd.R_alloc));exact Kd.R_mono HO_249001.out (fun _ hk=>⟨hk.1.1.1.1.1,⟨hk.1.1.1.1.2.1,⟨hk.1.1.1.1.2.2.1,⟨hk.1.1.1.1.2.2.2.1,⟨hk.1.1.1.1.2.2.2.2,⟨hk.1.2,hk.2⟩⟩⟩⟩⟩⟩)⟩,⟨by (try simp only [hl241000_67]);(try simp only [hl241001_67]);(with_reducible repeat (first|apply Kd.R_alloc));exact Kd.R_mono HO273.out (fun _ hk=>⟨hk.1.1.1.1.1.1.1.2,⟨hk.1.1.1.1.1.1.2,⟨hk.1.1.1.1.1.2,⟨hk.1.1.1.1.2,⟨hk.1.1.1.2,⟨hk.1.1.2,hk.1.1.1.1.1.1.1.1⟩⟩⟩⟩⟩⟩)⟩,⟨by (try simp only [hl241000_67]);(try simp only [hl241001_67]);(with_reducible repeat (first|apply Kd.R_alloc));exact Kd.R_mono HO276.out (fun _ hk=>⟨hk.1.1.1.1.1.1.1.2,⟨hk.1.1.1.1.1.1.2,⟨hk.1.1.1.1.1.2,⟨hk.1.1.1.1.2,⟨hk.1.1.1.2,⟨hk.1.1.2,hk.1.1.1.1.1.1.1.1⟩⟩⟩⟩⟩⟩)⟩,⟨by (try simp only [hl241000_67]);(try simp only [hl241001_67]);(with_reducible repeat (refine blk_alloc ?_ _));exact BK218.out⟩,⟨by (try simp only [hl241000_67]);(try simp only [hl241001_67]);(with_reducible repeat (refine blk_alloc ?_ _));exact BK233.out⟩,⟨by (try simp only [hl241000_67]);(try simp only [hl241001_67]);(with_reducible repeat (refine blk_alloc ?_ _));exact BK240.out⟩,⟨by (try simp only [hl241000_67]);(try simp only [hl241001_67]);(with_reducible repeat (refine blk_alloc ?_ _));exact BK248.out⟩,⟨by (try simp only [hl241000_67]);(try simp only [hl241001_67]);(with_reducible repeat (refine blk_alloc ?_ _));exact BK278.out⟩,⟨by repeat (first|(with_reducible first|exact HB.out|apply below_alloc|refine below_set ?_ GE218.out|refine below_set ?_ GE233.out|refine below_set ?_ GE240.out|refine below_set ?_ GE248.out|refine below_set ?_ GE278.out)|exact HB.out)⟩⟩
           case rest =>
            clear HC112
            try clear c1
            try clear c2
            try clear p2
            try clear c3
            try clear c4
            try clear c5
            try clear c5b0
            try clear c6
            try clear c7
            try clear c8
            try clear c9
            try clear c10
            try clear c11
            try clear c12
            try clear c13
            try clear c14
            try clear c15
            try clear c18
            try clear c19
            try clear c24
            try clear c27
            try clear c28
            try clear c31
            try clear c32
            try clear c40
            try clear c41
            try clear c42
            try clear c46
            try clear c47
            try clear c48
            try clear c49
            try clear c51
            try clear c52
            try clear c55
            try clear c56
            try clear c57
            try clear c59
            try clear c60
            try clear c63
            try clear c66
            try clear c74
            try clear c75
            try clear c76
            try clear c79
            try clear c79b0
            try clear c81
            try clear c82
            try clear c83
            try clear c84
            try clear c86
            try clear c87
            try clear c90
            try clear c91
            try clear c92
            try clear c94
            try clear c95
            try clear c98
            try clear c101
            try clear c101b0
            try clear c102
            try clear c103
            try clear c104
            try clear c109
            try clear c109b0
            try clear c109b1
            try clear c113
            try clear c114
            try clear c115
            try clear c120
            try clear c121
            try clear c129
            try clear c130
            try clear c131
            try clear c132
            try clear c136
            try clear c137
            try clear c138
            try clear c139
            try clear c140
            try clear c142
            try clear c143
            try clear c144
            try clear c147
            try clear c148
            try clear c149
            try clear c150
            try clear c152
            try clear c153
            try clear c154
            try clear hcz105_0
            try clear hcz105_1
            try clear hcz107_0
            try clear hcz107_1
            try clear hcz116_0
            try clear hcz116_1
            try clear hcz118_0
            try clear hcz118_1
            try clear hcz122_0
            try clear hcz122_1
            try clear hcz133_0
            try clear hcz133_1
            try clear hcz141_0
            try clear hcz141_1
            try clear hcz145_0
            try clear hcz145_1
            try clear hcz151_0
            try clear hcz151_1
            try clear hcz155_0
            try clear hcz155_1
            try clear hcz15_0
            try clear hcz15_1
            try clear hcz17_0
            try clear hcz17_1
            try clear hcz25_0
            try clear hcz25_1
            try clear hcz27_0
            try clear hcz27_1
            try clear hcz33_0
            try clear hcz33_1
            try clear hcz36_0
            try clear hcz36_1
            try clear hcz43_0
            try clear hcz43_1
            try clear hcz50_0
            try clear hcz50_1
            try clear hcz53_0
            try clear hcz53_1
            try clear hcz58_0
            try clear hcz58_1
            try clear hcz61_0
            try clear hcz61_1
            try clear hcz77_0
            try clear hcz77_1
            try clear hcz7_0
            try clear hcz7_1
            try clear hcz85_0
            try clear hcz85_1
            try clear hcz88_0
            try clear hcz88_1
            try clear hcz93_0
            try clear hcz93_1
            try clear hcz96_0
            try clear hcz96_1
            try clear hfz105_0
            try clear hfz105_1
            try clear hfz107_0
            try clear hfz107_1
            try clear hfz116_0
            try clear hfz116_1
            try clear hfz118_0
            try clear hfz118_1
            try clear hfz122_0
            try clear hfz122_1
            try clear hfz133_0
            try clear hfz133_1
            try clear hfz141_0
            try clear hfz141_1
            try clear hfz145_0
            try clear hfz145_1
            try clear hfz151_0
            try clear hfz151_1
            try clear hfz155_0
            try clear hfz155_1
            try clear hfz15_0
            try clear hfz15_1
            try clear hfz17_0
            try clear hfz17_1
            try clear hfz25_0
            try clear hfz25_1
            try clear hfz27_0
            try clear hfz27_1
            try clear hfz33_0
            try clear hfz33_1
            try clear hfz36_0
            try clear hfz36_1
            try clear hfz43_0
            try clear hfz43_1
            try clear hfz50_0
            try clear hfz50_1
            try clear hfz53_0
            try clear hfz53_1
            try clear hfz58_0
            try clear hfz58_1
            try clear hfz61_0
            try clear hfz61_1
            try clear hfz77_0
            try clear hfz77_1
            try clear hfz7_0
            try clear hfz7_1
            try clear hfz85_0
            try clear hfz85_1
            try clear hfz88_0
            try clear hfz88_1
            try clear hfz93_0
            try clear hfz93_1
            try clear hfz96_0
            try clear hfz96_1
            try clear p2
            obtain ⟨kq,x97_111,rfl,HA,HJ111,HO_234000,HO_234001,HO_241000,HO_241001,HO_249000,HO_249001,HO_279000,HO_279001,BK218,BK233,BK240,BK248,BK278,HB⟩:=hcut
            have hl249000_111:=(Kd.R_reads' HO_249000.out).1
            rw [hl249000_111] at HO_249000
            (try simp only [hl249000_111])
            (try simp only [hl249000_111] at BK218)
            (try simp only [hl249000_111] at BK233)
            (try simp only [hl249000_111] at BK240)
            (try simp only [hl249000_111] at BK248)
            (try simp only [hl249000_111] at BK278)
            (try simp only [hl249000_111] at HO_234000)
            (try simp only [hl249000_111] at HO_234001)
            (try simp only [hl249000_111] at HO_241000)
            (try simp only [hl249000_111] at HO_241001)
            (try simp only [hl249000_111] at HO_249001)
            (try simp only [hl249000_111] at HO_279000)
            (try simp only [hl249000_111] at HO_279001)
            have hl249001_111:=(Kd.R_reads' HO_249001.out).1
            rw [hl249001_111] at HO_249001
            (try simp only [hl249001_111])
            (try simp only [hl249001_111] at BK218)
            (try simp only [hl249001_111] at BK233)
            (try simp only [hl249001_111] at BK240)
            (try simp only [hl249001_111] at BK248)
            (try simp only [hl249001_111] at BK278)
            (try simp only [hl249001_111] at HO_234000)
            (try simp only [hl249001_111] at HO_234001)
            (try simp only [hl249001_111] at HO_241000)
            (try simp only [hl249001_111] at HO_241001)
            (try simp only [hl249001_111] at HO_249000)
            (try simp only [hl249001_111] at HO_279000)
            (try simp only [hl249001_111] at HO_279001)
            cases kq with
            | zero=>exact absurd HA.out (by simp [laws_FnExactCrashDisk.j2])
            | succ kj111 =>
             have H:=HA.out
             clear HA
             simp only [laws_FnExactCrashDisk.j2] at H
             by_cases c157:x97_111 = true
             ·subst c157
              have H1:(some false) = some r:=by rw [if_pos rfl] at H;exact H
              clear H
              have H:=H1
              clear H1
              obtain rfl:=Option.some.inj H
              go_wp2
              go_ret
              exact ⟨by first|rfl|(simp [errW_none,errW_some] <;> rfl)|(simp [*,errW_none,errW_some] <;> rfl),by repeat (first|(with_reducible first|exact HB.out|apply below_alloc|refine below_set ?_ GE218.out|refine below_set ?_ GE233.out|refine below_set ?_ GE240.out|refine below_set ?_ GE248.out|refine below_set ?_ GE278.out)|exact HB.out)⟩
             ·replace c157:=Bool.eq_false_iff.mpr c157
              subst c157
              have H1:((laws_heldDisk.f kj111 t262 t263 1).bind fun t280=>(if t280 < 0 then (some false) else (if t280 = t261 then (some true) else (some false)))) = some r:=by rw [if_neg (show ¬ (false = true) by decide)] at H;exact H
              clear H
              have H:=H1
              clear H1
              replace H:=Option.bind_eq_some_iff.mp H
              obtain ⟨t280,A1580,H⟩:=H
              replace H:(if t280 < 0 then (some false) else (if t280 = t261 then (some true) else (some false))) = some r:=H
              have A158:=Aside0.mk A1580
              clear A1580
              by_cases c159:t280 < 0
              ·rw [if_pos c159] at H
               have c159b0:decide (t280 < 0) = true:=decide_eq_true c159
               clear c159
               obtain rfl:=Option.some.inj H
               have hnb160:=NB248_218.out
               have hnc160:=NB218_248.out
               have hnb161:=NB248_233.out
               have hnc161:=NB233_248.out
               have hnb162:=NB248_240.out
               have hnc162:=NB240_248.out
               have hnb163:=NB248_278.out
               have hnc163:=NB278_248.out
               have hcz164_0:wc.cell? ⟨gb248,0,none⟩ = some (.slice Ao39 t262.length co39):=(blk_cell BK248.out 0).trans rfl
               have hcz164_1:wc.cell? ⟨gb248,1,none⟩ = some (.slice Ao44 t263.length co44):=(blk_cell BK248.out 1).trans rfl
               have hfz164_0:=blk_frozen BK248.out 0
               have hfz164_1:=blk_frozen BK248.out 1
               go_wp2_with (first|((with_reducible refine gate_callee (f:=24) rfl ?_);refine goesL_ (some 100) rfl rfl Try.func24 (by kernel_rfl) rfl #[.agg #[.slice Ao39 t262.length co39,.slice Ao44 t263.length co44],.int .i64 1] rfl (by (try simp only [List.map_toArray,List.map_cons,List.map_nil]);first|done|rfl|(simp only [List.length_drop,List.length_take];rfl)) ?_;(with_reducible refine (laws_heldDisk.calls kj111 _ _ t262 _ _ t263 1 t280 _ ?side1 ?side2 ?side3 ?side4 A158.out).mono ?_);(case side1=>repeat (first|exact (Kd.R_reads' HO_249000.out).2.2|(with_reducible refine Kd.C_alloc ?_ _)));(case side2=>exact (Kd.R_reads' HO_249000.out).2.1);(case side3=>repeat (first|exact (Kd.R_reads' HO_249001.out).2.2|(with_reducible refine Kd.C_alloc ?_ _)));(case side4=>exact (Kd.R_reads' HO_249001.out).2.1);rintro e w165 ⟨rfl,hb⟩;refine ⟨_,rfl,?_⟩;have n0_:=Aside0.mk (Kd.R_below (by (with_reducible repeat (first|apply Kd.R_alloc));exact HO_234000.out) hb);have n1_:=Aside0.mk (Kd.R_below (by (with_reducible repeat (first|apply Kd.R_alloc));exact HO_234001.out) hb);have n2_:=Aside0.mk (Kd.R_below (by (with_reducible repeat (first|apply Kd.R_alloc));exact HO_241000.out) hb);have n3_:=Aside0.mk (Kd.R_below (by (with_reducible repeat (first|apply Kd.R_alloc));exact HO_241001.out) hb);have n4_:=Aside0.mk (Kd.R_below (by (with_reducible repeat (first|apply Kd.R_alloc));exact HO_249000.out) hb);have n5_:=Aside0.mk (Kd.R_below (by (with_reducible repeat (first|apply Kd.R_alloc));exact HO_249001.out) hb);have n6_:=Aside0.mk (Kd.R_below (by (with_reducible repeat (first|apply Kd.R_alloc));exact HO_279000.out) hb);have n7_:=Aside0.mk (Kd.R_below (by (with_reducible repeat (first|apply Kd.R_alloc));exact HO_279001.out) hb);have n8_:=Aside0.mk (blk_below (g:=gb218) (o:=.cells #[.slice A0_0 l0_0.length c0_0,.slice A0_1 l0_1.length c0_1] 30 (0,0)) (by (with_reducible repeat (refine blk_alloc ?_ _));exact BK218.out) hb);have n9_:=Aside0.mk (blk_below (g:=gb233) (o:=.cells #[.slice Ao23 t226.length co23,.slice Ao26 t229.length co26] 34 (0,0)) (by (with_reducible repeat (refine blk_alloc ?_ _));exact BK233.out) hb);have n10_:=Aside0.mk (blk_below (g:=gb240) (o:=.cells #[.slice Ao30 t258.length co30,.slice Ao34 t259.length co34] 34 (0,0)) (by (with_reducible repeat (refine blk_alloc ?_ _));exact BK240.out) hb);have n11_:=Aside0.mk (blk_below (g:=gb248) (o:=.cells #[.slice Ao39 t262.length co39,.slice Ao44 t263.length co44] 34 (0,0)) (by (with_reducible repeat (refine blk_alloc ?_ _));exact BK248.out) hb);have n12_:=Aside0.mk (blk_below (g:=gb278) (o:=.cells #[.slice Ao128 t271.length co128,.slice Ao134 t274.length co134] 34 (0,0)) (by (with_reducible repeat (refine blk_alloc ?_ _));exact BK278.out) hb);have n13_:=Aside0.mk (below_step (by repeat (first|(with_reducible first|exact HB.out|apply below_alloc|refine below_set ?_ GE218.out|refine below_set ?_ GE233.out|refine below_set ?_ GE240.out|refine below_set ?_ GE248.out|refine below_set ?_ GE278.out)|exact HB.out)) hb);clear HO_234000;clear HO_234001;clear HO_241000;clear HO_241001;clear HO_249000;clear HO_249001;clear HO_279000;clear HO_279001;clear BK218;clear BK233;clear BK240;clear BK248;clear BK278;clear HB;have HO_234000:=n0_;have HO_234001:=n1_;have HO_241000:=n2_;have HO_241001:=n3_;have HO_249000:=n4_;have HO_249001:=n5_;have HO_279000:=n6_;have HO_279001:=n7_;have BK218:=n8_;have BK233:=n9_;have BK240:=n10_;have BK248:=n11_;have BK278:=n12_;have HB:=n13_;clear n0_ n1_ n2_ n3_ n4_ n5_ n6_ n7_ n8_ n9_ n10_ n11_ n12_ n13_;(try clear hb);(try clear hb2);(try clear hk);(try clear hi)))
               go_ret
               exact ⟨by first|rfl|(simp [errW_none,errW_some] <;> rfl)|(simp [*,errW_none,errW_some] <;> rfl),by repeat (first|(with_reducible first|exact HB.out|apply below_alloc|refine below_set ?_ GE218.out|refine below_set ?_ GE233.out|refine below_set ?_ GE240.out|refine below_set ?_ GE248.out|refine below_set ?_ GE278.out)|exact HB.out)⟩
              ·rw [if_neg c159] at H
               have c159b0:decide (t280 < 0) = false:=decide_eq_false c159
               clear c159
               by_cases c166:t280 = t261
               ·rw [if_pos c166] at H
                have c166b0:(t280 == t261) = true:=beq_iff_eq.mpr c166
                have c166b1:(t280 != t261) = false:=bne_eq_false_iff_eq.mpr c166
                clear c166
                obtain rfl:=Option.some.inj H
                have hnb167:=NB248_218.out
                have hnc167:=NB218_248.out
                have hnb168:=NB248_233.out
                have hnc168:=NB233_248.out
                have hnb169:=NB248_240.out
                have hnc169:=NB240_248.out
                have hnb170:=NB248_278.out
                have hnc170:=NB278_248.out
                have hcz171_0:wc.cell? ⟨gb248,0,none⟩ = some (.slice Ao39 t262.length co39):=(blk_cell BK248.out 0).trans rfl
                have hcz171_1:wc.cell? ⟨gb248,1,none⟩ = some (.slice Ao44 t263.length co44):=(blk_cell BK248.out 1).trans rfl
                have hfz171_0:=blk_frozen BK248.out 0
                have hfz171_1:=blk_frozen BK248.out 1
                go_wp2_with (first|((with_reducible refine gate_callee (f:=24) rfl ?_);refine goesL_ (some 100) rfl rfl Try.func24 (by kernel_rfl) rfl #[.agg #[.slice Ao39 t262.length co39,.slice Ao44 t263.length co44],.int .i64 1] rfl (by (try simp only [List.map_toArray,List.map_cons,List.map_nil]);first|done|rfl|(simp only [List.length_drop,List.length_take];rfl)) ?_;(with_reducible refine (laws_heldDisk.calls kj111 _ _ t262 _ _ t263 1 t280 _ ?side1 ?side2 ?side3 ?side4 A158.out).mono ?_);(case side1=>repeat (first|exact (Kd.R_reads' HO_249000.out).2.2|(with_reducible refine Kd.C_alloc ?_ _)));(case side2=>exact (Kd.R_reads' HO_249000.out).2.1);(case side3=>repeat (first|exact (Kd.R_reads' HO_249001.out).2.2|(with_reducible refine Kd.C_alloc ?_ _)));(case side4=>exact (Kd.R_reads' HO_249001.out).2.1);rintro e w172 ⟨rfl,hb⟩;refine ⟨_,rfl,?_⟩;have n0_:=Aside0.mk (Kd.R_below (by (with_reducible repeat (first|apply Kd.R_alloc));exact HO_234000.out) hb);have n1_:=Aside0.mk (Kd.R_below (by (with_reducible repeat (first|apply Kd.R_alloc));exact HO_234001.out) hb);have n2_:=Aside0.mk (Kd.R_below (by (with_reducible repeat (first|apply Kd.R_alloc));exact HO_241000.out) hb);have n3_:=Aside0.mk (Kd.R_below (by (with_reducible repeat (first|apply Kd.R_alloc));exact HO_241001.out) hb);have n4_:=Aside0.mk (Kd.R_below (by (with_reducible repeat (first|apply Kd.R_alloc));exact HO_249000.out) hb);have n5_:=Aside0.mk (Kd.R_below (by (with_reducible repeat (first|apply Kd.R_alloc));exact HO_249001.out) hb);have n6_:=Aside0.mk (Kd.R_below (by (with_reducible repeat (first|apply Kd.R_alloc));exact HO_279000.out) hb);have n7_:=Aside0.mk (Kd.R_below (by (with_reducible repeat (first|apply Kd.R_alloc));exact HO_279001.out) hb);have n8_:=Aside0.mk (blk_below (g:=gb218) (o:=.cells #[.slice A0_0 l0_0.length c0_0,.slice A0_1 l0_1.length c0_1] 30 (0,0)) (by (with_reducible repeat (refine blk_alloc ?_ _));exact BK218.out) hb);have n9_:=Aside0.mk (blk_below (g:=gb233) (o:=.cells #[.slice Ao23 t226.length co23,.slice Ao26 t229.length co26] 34 (0,0)) (by (with_reducible repeat (refine blk_alloc ?_ _));exact BK233.out) hb);have n10_:=Aside0.mk (blk_below (g:=gb240) (o:=.cells #[.slice Ao30 t258.length co30,.slice Ao34 t259.length co34] 34 (0,0)) (by (with_reducible repeat (refine blk_alloc ?_ _));exact BK240.out) hb);have n11_:=Aside0.mk (blk_below (g:=gb248) (o:=.cells #[.slice Ao39 t262.length co39,.slice Ao44 t263.length co44] 34 (0,0)) (by (with_reducible repeat (refine blk_alloc ?_ _));exact BK248.out) hb);have n12_:=Aside0.mk (blk_below (g:=gb278) (o:=.cells #[.slice Ao128 t271.length co128,.slice Ao134 t274.length co134] 34 (0,0)) (by (with_reducible repeat (refine blk_alloc ?_ _));exact BK278.out) hb);have n13_:=Aside0.mk (below_step (by repeat (first|(with_reducible first|exact HB.out|apply below_alloc|refine below_set ?_ GE218.out|refine below_set ?_ GE233.out|refine below_set ?_ GE240.out|refine below_set ?_ GE248.out|refine below_set ?_ GE278.out)|exact HB.out)) hb);clear HO_234000;clear HO_234001;clear HO_241000;clear HO_241001;clear HO_249000;clear HO_249001;clear HO_279000;clear HO_279001;clear BK218;clear BK233;clear BK240;clear BK248;clear BK278;clear HB;have HO_234000:=n0_;have HO_234001:=n1_;have HO_241000:=n2_;have HO_241001:=n3_;have HO_249000:=n4_;have HO_249001:=n5_;have HO_279000:=n6_;have HO_279001:=n7_;have BK218:=n8_;have BK233:=n9_;have BK240:=n10_;have BK248:=n11_;have BK278:=n12_;have HB:=n13_;clear n0_ n1_ n2_ n3_ n4_ n5_ n6_ n7_ n8_ n9_ n10_ n11_ n12_ n13_;(try clear hb);(try clear hb2);(try clear hk);(try clear hi)))
                go_ret
                exact ⟨by first|rfl|(simp [errW_none,errW_some] <;> rfl)|(simp [*,errW_none,errW_some] <;> rfl),by repeat (first|(with_reducible first|exact HB.out|apply below_alloc|refine below_set ?_ GE218.out|refine below_set ?_ GE233.out|refine below_set ?_ GE240.out|refine below_set ?_ GE248.out|refine below_set ?_ GE278.out)|exact HB.out)⟩
               ·rw [if_neg c166] at H
                have c166b0:(t280 == t261) = false:=beq_eq_false_iff_ne.mpr c166
                have c166b1:(t280 != t261) = true:=bne_iff_ne.mpr c166
                obtain rfl:=Option.some.inj H
                have hnb173:=NB248_218.out
                have hnc173:=NB218_248.out
                have hnb174:=NB248_233.out
                have hnc174:=NB233_248.out
                have hnb175:=NB248_240.out
                have hnc175:=NB240_248.out
                have hnb176:=NB248_278.out
                have hnc176:=NB278_248.out
                have hcz177_0:wc.cell? ⟨gb248,0,none⟩ = some (.slice Ao39 t262.length co39):=(blk_cell BK248.out 0).trans rfl
                have hcz177_1:wc.cell? ⟨gb248,1,none⟩ = some (.slice Ao44 t263.length co44):=(blk_cell BK248.out 1).trans rfl
                have hfz177_0:=blk_frozen BK248.out 0
                have hfz177_1:=blk_frozen BK248.out 1
                go_wp2_with (first|((with_reducible refine gate_callee (f:=24) rfl ?_);refine goesL_ (some 100) rfl rfl Try.func24 (by kernel_rfl) rfl #[.agg #[.slice Ao39 t262.length co39,.slice Ao44 t263.length co44],.int .i64 1] rfl (by (try simp only [List.map_toArray,List.map_cons,List.map_nil]);first|done|rfl|(simp only [List.length_drop,List.length_take];rfl)) ?_;(with_reducible refine (laws_heldDisk.calls kj111 _ _ t262 _ _ t263 1 t280 _ ?side1 ?side2 ?side3 ?side4 A158.out).mono ?_);(case side1=>repeat (first|exact (Kd.R_reads' HO_249000.out).2.2|(with_reducible refine Kd.C_alloc ?_ _)));(case side2=>exact (Kd.R_reads' HO_249000.out).2.1);(case side3=>repeat (first|exact (Kd.R_reads' HO_249001.out).2.2|(with_reducible refine Kd.C_alloc ?_ _)));(case side4=>exact (Kd.R_reads' HO_249001.out).2.1);rintro e w178 ⟨rfl,hb⟩;refine ⟨_,rfl,?_⟩;have n0_:=Aside0.mk (Kd.R_below (by (with_reducible repeat (first|apply Kd.R_alloc));exact HO_234000.out) hb);have n1_:=Aside0.mk (Kd.R_below (by (with_reducible repeat (first|apply Kd.R_alloc));exact HO_234001.out) hb);have n2_:=Aside0.mk (Kd.R_below (by (with_reducible repeat (first|apply Kd.R_alloc));exact HO_241000.out) hb);have n3_:=Aside0.mk (Kd.R_below (by (with_reducible repeat (first|apply Kd.R_alloc));exact HO_241001.out) hb);have n4_:=Aside0.mk (Kd.R_below (by (with_reducible repeat (first|apply Kd.R_alloc));exact HO_249000.out) hb);have n5_:=Aside0.mk (Kd.R_below (by (with_reducible repeat (first|apply Kd.R_alloc));exact HO_249001.out) hb);have n6_:=Aside0.mk (Kd.R_below (by (with_reducible repeat (first|apply Kd.R_alloc));exact HO_279000.out) hb);have n7_:=Aside0.mk (Kd.R_below (by (with_reducible repeat (first|apply Kd.R_alloc));exact HO_279001.out) hb);have n8_:=Aside0.mk (blk_below (g:=gb218) (o:=.cells #[.slice A0_0 l0_0.length c0_0,.slice A0_1 l0_1.length c0_1] 30 (0,0)) (by (with_reducible repeat (refine blk_alloc ?_ _));exact BK218.out) hb);have n9_:=Aside0.mk (blk_below (g:=gb233) (o:=.cells #[.slice Ao23 t226.length co23,.slice Ao26 t229.length co26] 34 (0,0)) (by (with_reducible repeat (refine blk_alloc ?_ _));exact BK233.out) hb);have n10_:=Aside0.mk (blk_below (g:=gb240) (o:=.cells #[.slice Ao30 t258.length co30,.slice Ao34 t259.length co34] 34 (0,0)) (by (with_reducible repeat (refine blk_alloc ?_ _));exact BK240.out) hb);have n11_:=Aside0.mk (blk_below (g:=gb248) (o:=.cells #[.slice Ao39 t262.length co39,.slice Ao44 t263.length co44] 34 (0,0)) (by (with_reducible repeat (refine blk_alloc ?_ _));exact BK248.out) hb);have n12_:=Aside0.mk (blk_below (g:=gb278) (o:=.cells #[.slice Ao128 t271.length co128,.slice Ao134 t274.length co134] 34 (0,0)) (by (with_reducible repeat (refine blk_alloc ?_ _));exact BK278.out) hb);have n13_:=Aside0.mk (below_step (by repeat (first|(with_reducible first|exact HB.out|apply below_alloc|refine below_set ?_ GE218.out|refine below_set ?_ GE233.out|refine below_set ?_ GE240.out|refine below_set ?_ GE248.out|refine below_set ?_ GE278.out)|exact HB.out)) hb);clear HO_234000;clear HO_234001;clear HO_241000;clear HO_241001;clear HO_249000;clear HO_249001;clear HO_279000;clear HO_279001;clear BK218;clear BK233;clear BK240;clear BK248;clear BK278;clear HB;have HO_234000:=n0_;have HO_234001:=n1_;have HO_241000:=n2_;have HO_241001:=n3_;have HO_249000:=n4_;have HO_249001:=n5_;have HO_279000:=n6_;have HO_279001:=n7_;have BK218:=n8_;have BK233:=n9_;have BK240:=n10_;have BK248:=n11_;have BK278:=n12_;have HB:=n13_;clear n0_ n1_ n2_ n3_ n4_ n5_ n6_ n7_ n8_ n9_ n10_ n11_ n12_ n13_;(try clear hb);(try clear hb2);(try clear hk);(try clear hi)))
                go_ret
                exact ⟨by first|rfl|(simp [errW_none,errW_some] <;> rfl)|(simp [*,errW_none,errW_some] <;> rfl),by repeat (first|(with_reducible first|exact HB.out|apply below_alloc|refine below_set ?_ GE218.out|refine below_set ?_ GE233.out|refine below_set ?_ GE240.out|refine below_set ?_ GE248.out|refine below_set ?_ GE278.out)|exact HB.out)⟩
          ·rw [if_neg c109] at H
           have c109b0:(t264 == t261) = false:=beq_eq_false_iff_ne.mpr c109
           have c109b1:(t264 != t261) = true:=bne_iff_ne.mpr c109
           obtain rfl:=Option.some.inj H
           have hnb179:=NB248_218.out
           have hnc179:=NB218_248.out
           have hnb180:=NB248_233.out
           have hnc180:=NB233_248.out
           have hnb181:=NB248_240.out
           have hnc181:=NB240_248.out
           have hcz182_0:wc.cell? ⟨gb248,0,none⟩ = some (.slice Ao39 t241.length co39):=(blk_cell BK248.out 0).trans rfl
           have hcz182_1:wc.cell? ⟨gb248,1,none⟩ = some (.slice Ao44 t244.length co44):=(blk_cell BK248.out 1).trans rfl
           have hfz182_0:=blk_frozen BK248.out 0
           have hfz182_1:=blk_frozen BK248.out 1
           go_wp2_with (first|((with_reducible refine gate_callee (f:=19) rfl ?_);refine goesL_ (some 72) rfl rfl Try.func19 (by kernel_rfl) rfl #[.agg #[.slice Ao39 t241.length co39,.slice Ao44 t244.length co44],.int .i64 1] rfl (by (try simp only [List.map_toArray,List.map_cons,List.map_nil]);first|done|rfl|(simp only [List.length_drop,List.length_take];rfl)) ?_;(with_reducible refine (laws_markDisk.calls kj67 (fun k_=>some k_ = (.slice Ao39 t241.length co39:Value).ownBlock) (.slice Ao39 t241.length co39) t241 (fun k_=>some k_ = (.slice Ao44 t244.length co44:Value).ownBlock) (.slice Ao44 t244.length co44) t244 1 t261 t262 t263 w _ ?side1 ?side2 ?side3 ?side4 ?side5 A99.out).mono ?_);(case side1=>repeat (first|(with_reducible first|exact HB.out|apply below_alloc|refine below_set ?_ GE218.out|refine below_set ?_ GE233.out|refine below_set ?_ GE240.out|refine below_set ?_ GE248.out)|exact HB.out));(case side2=>exact Kd.R_tight rfl HO_249000.out);(case side3=>exact fun k_ e_=>(HO_249000.out.1 k_ e_.symm).2.2.2.2);(case side4=>exact Kd.R_tight rfl HO_249001.out);(case side5=>exact fun k_ e_=>(HO_249001.out.1 k_ e_.symm).2.2.2.2);rintro e w183 ⟨rfl,hy0,hy1,hb,hkp⟩;refine ⟨_,rfl,?_⟩;have n0_:=Aside0.mk (Kd.R_mono (ok':=fun k_=>some k_ ≠ (.slice Ao26 t229.length co26:Value).ownBlock ∧ some k_ ≠ (.slice Ao30 t258.length co30:Value).ownBlock ∧ some k_ ≠ (.slice Ao34 t259.length co34:Value).ownBlock ∧ some k_ ≠ (.slice Ao39 t241.length co39:Value).ownBlock ∧ some k_ ≠ (.slice Ao44 t244.length co44:Value).ownBlock) (Kd.R_keptB (HO_234000.out) hkp (fun k_ hk_ hs_=>Or.elim hs_ (fun e_=>(hk_.2.2.2.1) e_) (fun e_=>(hk_.2.2.2.2) e_))) (fun k_ hk_=>⟨hk_.1.1,hk_.1.2.1,hk_.1.2.2.1,hk_.1.2.2.2.1,hk_.1.2.2.2.2⟩));have n1_:=Aside0.mk (Kd.R_mono (ok':=fun k_=>some k_ ≠ (.slice Ao23 t226.length co23:Value).ownBlock ∧ some k_ ≠ (.slice Ao30 t258.length co30:Value).ownBlock ∧ some k_ ≠ (.slice Ao34 t259.length co34:Value).ownBlock ∧ some k_ ≠ (.slice Ao39 t241.length co39:Value).ownBlock ∧ some k_ ≠ (.slice Ao44 t244.length co44:Value).ownBlock) (Kd.R_keptB (HO_234001.out) hkp (fun k_ hk_ hs_=>Or.elim hs_ (fun e_=>(hk_.2.2.2.1) e_) (fun e_=>(hk_.2.2.2.2) e_))) (fun k_ hk_=>⟨hk_.1.1,hk_.1.2.1,hk_.1.2.2.1,hk_.1.2.2.2.1,hk_.1.2.2.2.2⟩));have n2_:=Aside0.mk (Kd.R_mono (ok':=fun k_=>some k_ ≠ (.slice Ao23 t226.length co23:Value).ownBlock ∧ some k_ ≠ (.slice Ao26 t229.length co26:Value).ownBlock ∧ some k_ ≠ (.slice Ao34 t259.length co34:Value).ownBlock ∧ some k_ ≠ (.slice Ao39 t241.length co39:Value).ownBlock ∧ some k_ ≠ (.slice Ao44 t244.length co44:Value).ownBlock) (Kd.R_keptB (HO_241000.out) hkp (fun k_ hk_ hs_=>Or.elim hs_ (fun e_=>(hk_.2.2.2.1) e_) (fun e_=>(hk_.2.2.2.2) e_))) (fun k_ hk_=>⟨hk_.1.1,hk_.1.2.1,hk_.1.2.2.1,hk_.1.2.2.2.1,hk_.1.2.2.2.2⟩));have n3_:=Aside0.mk (Kd.R_mono (ok':=fun k_=>some k_ ≠ (.slice Ao23 t226.length co23:Value).ownBlock ∧ some k_ ≠ (.slice Ao26 t229.length co26:Value).ownBlock ∧ some k_ ≠ (.slice Ao30 t258.length co30:Value).ownBlock ∧ some k_ ≠ (.slice Ao39 t241.length co39:Value).ownBlock ∧ some k_ ≠ (.slice Ao44 t244.length co44:Value).ownBlock) (Kd.R_keptB (HO_241001.out) hkp (fun k_ hk_ hs_=>Or.elim hs_ (fun e_=>(hk_.2.2.2.1) e_) (fun e_=>(hk_.2.2.2.2) e_))) (fun k_ hk_=>⟨hk_.1.1,hk_.1.2.1,hk_.1.2.2.1,hk_.1.2.2.2.1,hk_.1.2.2.2.2⟩));have n4_:=Aside0.mk (Kd.R_reok rfl hy0 (fun k_ e_=>HO_249000.out.1 k_ e_));have n5_:=Aside0.mk (Kd.R_reok rfl hy1 (fun k_ e_=>HO_249001.out.1 k_ e_));have n6_:=Aside0.mk (blk_kept (by (with_reducible repeat (refine blk_alloc ?_ _));exact BK218.out) hkp (fun hs_=>Or.elim hs_ (fun e_=>(fun e_=>(Kd.R_ne HO_249000.out BK218.out (by decide)) e_) e_) (fun e_=>(fun e_=>(Kd.R_ne HO_249001.out BK218.out (by decide)) e_) e_)));have n7_:=Aside0.mk (blk_kept (by (with_reducible repeat (refine blk_alloc ?_ _));exact BK233.out) hkp (fun hs_=>Or.elim hs_ (fun e_=>(fun e_=>(Kd.R_ne HO_249000.out BK233.out (by decide)) e_) e_) (fun e_=>(fun e_=>(Kd.R_ne HO_249001.out BK233.out (by decide)) e_) e_)));have n8_:=Aside0.mk (blk_kept (by (with_reducible repeat (refine blk_alloc ?_ _));exact BK240.out) hkp (fun hs_=>Or.elim hs_ (fun e_=>(fun e_=>(Kd.R_ne HO_249000.out BK240.out (by decide)) e_) e_) (fun e_=>(fun e_=>(Kd.R_ne HO_249001.out BK240.out (by decide)) e_) e_)));have n9_:=Aside0.mk (blk_kept (by (with_reducible repeat (refine blk_alloc ?_ _));exact BK248.out) hkp (fun hs_=>Or.elim hs_ (fun e_=>(fun e_=>(Kd.R_ne HO_249000.out BK248.out (by decide)) e_) e_) (fun e_=>(fun e_=>(Kd.R_ne HO_249001.out BK248.out (by decide)) e_) e_)));have n10_:=Aside0.mk (hb);clear HO_234000;clear HO_234001;clear HO_241000;clear HO_241001;clear HO_249000;clear HO_249001;clear BK218;clear BK233;clear BK240;clear BK248;clear HB;have HO_234000:=n0_;have HO_234001:=n1_;have HO_241000:=n2_;have HO_241001:=n3_;have HO_249000:=n4_;have HO_249001:=n5_;have BK218:=n6_;have BK233:=n7_;have BK240:=n8_;have BK248:=n9_;have HB:=n10_;clear n0_ n1_ n2_ n3_ n4_ n5_ n6_ n7_ n8_ n9_ n10_;(try clear hb);(try clear hkp);(try clear hy0);(try clear hy1);have hcz184_0:w183.cell? ⟨gb248,0,none⟩ = some (.slice Ao39 t241.length co39):=(blk_cell BK248.out 0).trans rfl;have hcz184_1:w183.cell? ⟨gb248,1,none⟩ = some (.slice Ao44 t244.length co44):=(blk_cell BK248.out 1).trans rfl;have hfz184_0:=blk_frozen BK248.out 0;have hfz184_1:=blk_frozen BK248.out 1)|((with_reducible refine gate_callee (f:=24) rfl ?_);refine goesL_ (some 75) rfl rfl Try.func24 (by kernel_rfl) rfl #[.agg #[.slice Ao39 t262.length co39,.slice Ao44 t263.length co44],.int .i64 1] rfl (by (try simp only [List.map_toArray,List.map_cons,List.map_nil]);first|done|(rw [show t262.length = t241.length from (Kd.R_reads' HO_249000.out).1.symm,show t263.length = t244.length from (Kd.R_reads' HO_249001.out).1.symm] <;> rfl)|rfl|(simp only [List.length_drop,List.length_take];rfl)) ?_;(with_reducible refine (laws_heldDisk.calls kj67 _ _ t262 _ _ t263 1 t264 _ ?side1 ?side2 ?side3 ?side4 A100.out).mono ?_);(case side1=>repeat (first|exact (Kd.R_reads' HO_249000.out).2.2|(with_reducible refine Kd.C_alloc ?_ _)));(case side2=>rw [show t262.length = t241.length from (Kd.R_reads' HO_249000.out).1.symm];exact (Kd.R_reads' HO_249000.out).2.1);(case side3=>repeat (first|exact (Kd.R_reads' HO_249001.out).2.2|(with_reducible refine Kd.C_alloc ?_ _)));(case side4=>rw [show t263.length = t244.length from (Kd.R_reads' HO_249001.out).1.symm];exact (Kd.R_reads' HO_249001.out).2.1);rintro e w185 ⟨rfl,hb⟩;refine ⟨_,rfl,?_⟩;have n0_:=Aside0.mk (Kd.R_below (by (with_reducible repeat (first|apply Kd.R_alloc));exact HO_234000.out) hb);have n1_:=Aside0.mk (Kd.R_below (by (with_reducible repeat (first|apply Kd.R_alloc));exact HO_234001.out) hb);have n2_:=Aside0.mk (Kd.R_below (by (with_reducible repeat (first|apply Kd.R_alloc));exact HO_241000.out) hb);have n3_:=Aside0.mk (Kd.R_below (by (with_reducible repeat (first|apply Kd.R_alloc));exact HO_241001.out) hb);have n4_:=Aside0.mk (Kd.R_below (by (with_reducible repeat (first|apply Kd.R_alloc));exact HO_249000.out) hb);have n5_:=Aside0.mk (Kd.R_below (by (with_reducible repeat (first|apply Kd.R_alloc));exact HO_249001.out) hb);have n6_:=Aside0.mk (blk_below (g:=gb218) (o:=.cells #[.slice A0_0 l0_0.length c0_0,.slice A0_1 l0_1.length c0_1] 30 (0,0)) (by (with_reducible repeat (refine blk_alloc ?_ _));exact BK218.out) hb);have n7_:=Aside0.mk (blk_below (g:=gb233) (o:=.cells #[.slice Ao23 t226.length co23,.slice Ao26 t229.length co26] 34 (0,0)) (by (with_reducible repeat (refine blk_alloc ?_ _));exact BK233.out) hb);have n8_:=Aside0.mk (blk_below (g:=gb240) (o:=.cells #[.slice Ao30 t258.length co30,.slice Ao34 t259.length co34] 34 (0,0)) (by (with_reducible repeat (refine blk_alloc ?_ _));exact BK240.out) hb);have n9_:=Aside0.mk (blk_below (g:=gb248) (o:=.cells #[.slice Ao39 t241.length co39,.slice Ao44 t244.length co44] 34 (0,0)) (by (with_reducible repeat (refine blk_alloc ?_ _));exact BK248.out) hb);have n10_:=Aside0.mk (below_step (by repeat (first|(with_reducible first|exact HB.out|apply below_alloc|refine below_set ?_ GE218.out|refine below_set ?_ GE233.out|refine below_set ?_ GE240.out|refine below_set ?_ GE248.out)|exact HB.out)) hb);clear HO_234000;clear HO_234001;clear HO_241000;clear HO_241001;clear HO_249000;clear HO_249001;clear BK218;clear BK233;clear BK240;clear BK248;clear HB;have HO_234000:=n0_;have HO_234001:=n1_;have HO_241000:=n2_;have HO_241001:=n3_;have HO_249000:=n4_;have HO_249001:=n5_;have BK218:=n6_;have BK233:=n7_;have BK240:=n8_;have BK248:=n9_;have HB:=n10_;clear n0_ n1_ n2_ n3_ n4_ n5_ n6_ n7_ n8_ n9_ n10_;(try clear hb);(try clear hb2);(try clear hk);(try clear hi)))
           go_ret
           exact ⟨by first|rfl|(simp [errW_none,errW_some] <;> rfl)|(simp [*,errW_none,errW_some] <;> rfl),by repeat (first|(with_reducible first|exact HB.out|apply below_alloc|refine below_set ?_ GE218.out|refine below_set ?_ GE233.out|refine below_set ?_ GE240.out|refine below_set ?_ GE248.out)|exact HB.out)⟩
     ·replace c66:=Bool.eq_false_iff.mpr c66
      subst c66
      have H1:(some false) = some r:=by rw [if_neg (show ¬ (false = true) by decide)] at H;exact H
      clear H
      have H:=H1
      clear H1
      obtain rfl:=Option.some.inj H
      try go_wp2
      have n0_:=Aside0.mk (Kd.R_drew HO_234000.out)
      have n1_:=Aside0.mk (Kd.R_drew HO_234001.out)
      have n2_:=Aside0.mk (Kd.R_drew HO_241000.out)
      have n3_:=Aside0.mk (Kd.R_drew HO_241001.out)
      have n4_:=Aside0.mk (Kd.R_drew HO_249000.out)
      have n5_:=Aside0.mk (Kd.R_drew HO_249001.out)
      have n6_:=Aside0.mk (blk_drew BK218.out)
      have n7_:=Aside0.mk (blk_drew BK233.out)
      have n8_:=Aside0.mk (blk_drew BK240.out)
      have n9_:=Aside0.mk (blk_drew BK248.out)
      have n10_:=Aside0.mk (below_drew1 HB.out)
      clear HO_234000
      clear HO_234001
      clear HO_241000
      clear HO_241001
      clear HO_249000
      clear HO_249001
      clear BK218
      clear BK233
      clear BK240
      clear BK248
      clear HB
      have HO_234000:=n0_
      have HO_234001:=n1_
      have HO_241000:=n2_
      have HO_241001:=n3_
      have HO_249000:=n4_
      have HO_249001:=n5_
      have BK218:=n6_
      have BK233:=n7_
      have BK240:=n8_
      have BK248:=n9_
      have HB:=n10_
      clear n0_ n1_ n2_ n3_ n4_ n5_ n6_ n7_ n8_ n9_ n10_
      refine start_ (n:=5) (S:=fun w'=>w'.cell? ⟨gb240,0,none⟩ = some (.slice Ao30 t234.length co30) ∧ w'.cell? ⟨gb240,1,none⟩ = some (.slice Ao34 t237.length co34) ∧ w'.cell? ⟨gb218,0,none⟩ = some (.slice A0_0 l0_0.length c0_0) ∧ w'.cell? ⟨gb218,1,none⟩ = some (.slice A0_1 l0_1.length c0_1)) (ds:=[]) #[false,false,false,false,false] (by kernel_rfl) rfl rfl ⟨(blk_cell BK240.out 0).trans rfl,(blk_cell BK240.out 1).trans rfl,(blk_cell BK218.out 0).trans rfl,(blk_cell BK218.out 1).trans rfl⟩ (fun hHeld=>?_)
      generalize wc.drew = w186 at HO_234000 HO_234001 HO_241000 HO_241001 HO_249000 HO_249001 BK218 BK233 BK240 BK248 HB hHeld ⊢
      refine take_ (i:=0) (N:=some 49) (v:=?_) (a':=?_) #[true,false,false,false,false] rfl rfl (by kernel_rfl) (fun _ _ _ h=>h) (Or.inl ⟨by rfl,?_⟩) hHeld ?_ ?_
      rotate_left
      ·rintro w' ⟨s0,s1,s2,s3⟩
       go_simp
       with_reducible rfl
      rotate_left
      ·simp only [Act.put,List.setIfInBounds_toArray,List.set_cons_zero,List.set_cons_succ,i64_w,i32_w]
       rfl
      refine take_ (i:=1) (N:=some 50) (v:=?_) (a':=?_) #[true,true,false,false,false] rfl rfl (by kernel_rfl) (fun _ _ _ h=>h) (Or.inl ⟨by rfl,?_⟩) hHeld ?_ ?_
      rotate_left
      ·rintro w' ⟨s0,s1,s2,s3⟩
       go_simp
       with_reducible rfl
      rotate_left
      ·simp only [Act.put,List.setIfInBounds_toArray,List.set_cons_zero,List.set_cons_succ,i64_w,i32_w]
       rfl
      refine one_ (i:=2) (N:=some 51) #[true,true,true,false,false] rfl rfl (by kernel_rfl) (by decide) (fun K hK=>?_)
      refine goes_ Try.func15 (by kernel_rfl) rfl #[.agg #[.slice A0_0 l0_0.length c0_0,.slice A0_1 l0_1.length c0_1]] (by rfl) rfl rfl (by (try simp only [List.map_toArray,List.map_cons,List.map_nil]);first|done|rfl|(simp only [List.length_drop,List.length_take];rfl)) ?_
      with_reducible refine (laws_toDisk.calls kj12 _ _ l0_0 _ _ l0_1 t250 t253 _ ?side1 ?side2 ?side3 ?side4 A64.out).mono ?_
      (case side1=>repeat (first|exact (Kd.C_below HR0_0.out HB.out)|(with_reducible refine Kd.C_alloc ?_ _)))
      (case side2=>exact HC0_0.out)
      (case side3=>repeat (first|exact (Kd.C_below HR0_1.out HB.out)|(with_reducible refine Kd.C_alloc ?_ _)))
      (case side4=>exact HC0_1.out)
      rintro e w187 ⟨v251,v254,rfl,ho0,ho1,hb⟩
      refine ⟨_,rfl,?_⟩
      have n0_:=Aside0.mk (Kd.R_mono (Kd.R_told (Kd.R_told (Kd.R_old (by (with_reducible repeat (first|apply Kd.R_alloc));exact HO_234000.out) hb) (Kd.R_base ho0)) (Kd.R_base ho1)) (fun _ h_=>h_.1))
      have n1_:=Aside0.mk (Kd.R_mono (Kd.R_told (Kd.R_told (Kd.R_old (by (with_reducible repeat (first|apply Kd.R_alloc));exact HO_234001.out) hb) (Kd.R_base ho0)) (Kd.R_base ho1)) (fun _ h_=>h_.1))
      have n2_:=Aside0.mk (Kd.R_mono (Kd.R_told (Kd.R_told (Kd.R_old (by (with_reducible repeat (first|apply Kd.R_alloc));exact HO_241000.out) hb) (Kd.R_base ho0)) (Kd.R_base ho1)) (fun _ h_=>h_.1))
      have n3_:=Aside0.mk (Kd.R_mono (Kd.R_told (Kd.R_told (Kd.R_old (by (with_reducible repeat (first|apply Kd.R_alloc));exact HO_241001.out) hb) (Kd.R_base ho0)) (Kd.R_base ho1)) (fun _ h_=>h_.1))
      have n4_:=Aside0.mk (Kd.R_mono (Kd.R_told (Kd.R_told (Kd.R_old (by (with_reducible repeat (first|apply Kd.R_alloc));exact HO_249000.out) hb) (Kd.R_base ho0)) (Kd.R_base ho1)) (fun _ h_=>h_.1))
      have n5_:=Aside0.mk (Kd.R_mono (Kd.R_told (Kd.R_told (Kd.R_old (by (with_reducible repeat (first|apply Kd.R_alloc));exact HO_249001.out) hb) (Kd.R_base ho0)) (Kd.R_base ho1)) (fun _ h_=>h_.1))
      have n6_:=Aside0.mk (Kd.R_lower (Kd.R_new' (Kd.R_new' (Kd.R_new' (Kd.R_new' (Kd.R_new' (Kd.R_new' ho0 (Kd.R_lt (by (with_reducible repeat (first|apply Kd.R_alloc));exact HO_234000.out))) (Kd.R_lt (by (with_reducible repeat (first|apply Kd.R_alloc));exact HO_234001.out))) (Kd.R_lt (by (with_reducible repeat (first|apply Kd.R_alloc));exact HO_241000.out))) (Kd.R_lt (by (with_reducible repeat (first|apply Kd.R_alloc));exact HO_241001.out))) (Kd.R_lt (by (with_reducible repeat (first|apply Kd.R_alloc));exact HO_249000.out))) (Kd.R_lt (by (with_reducible repeat (first|apply Kd.R_alloc));exact HO_249001.out))) (below_size (by repeat (first|(with_reducible first|exact HB.out|apply below_alloc|refine below_set ?_ GE218.out|refine below_set ?_ GE233.out|refine below_set ?_ GE240.out|refine below_set ?_ GE248.out)|exact HB.out))))
      have n7_:=Aside0.mk (Kd.R_lower (Kd.R_new' (Kd.R_new' (Kd.R_new' (Kd.R_new' (Kd.R_new' (Kd.R_new' ho1 (Kd.R_lt (by (with_reducible repeat (first|apply Kd.R_alloc));exact HO_234000.out))) (Kd.R_lt (by (with_reducible repeat (first|apply Kd.R_alloc));exact HO_234001.out))) (Kd.R_lt (by (with_reducible repeat (first|apply Kd.R_alloc));exact HO_241000.out))) (Kd.R_lt (by (with_reducible repeat (first|apply Kd.R_alloc));exact HO_241001.out))) (Kd.R_lt (by (with_reducible repeat (first|apply Kd.R_alloc));exact HO_249000.out))) (Kd.R_lt (by (with_reducible repeat (first|apply Kd.R_alloc));exact HO_249001.out))) (below_size (by repeat (first|(with_reducible first|exact HB.out|apply below_alloc|refine below_set ?_ GE218.out|refine below_set ?_ GE233.out|refine below_set ?_ GE240.out|refine below_set ?_ GE248.out)|exact HB.out))))
      have n8_:=Aside0.mk (blk_below (g:=gb218) (o:=.cells #[.slice A0_0 l0_0.length c0_0,.slice A0_1 l0_1.length c0_1] 30 (0,0)) (by (with_reducible repeat (refine blk_alloc ?_ _));exact BK218.out) hb)
      have n9_:=Aside0.mk (blk_below (g:=gb233) (o:=.cells #[.slice Ao23 t226.length co23,.slice Ao26 t229.length co26] 34 (0,0)) (by (with_reducible repeat (refine blk_alloc ?_ _));exact BK233.out) hb)
      have n10_:=Aside0.mk (blk_below (g:=gb240) (o:=.cells #[.slice Ao30 t234.length co30,.slice Ao34 t237.length co34] 34 (0,0)) (by (with_reducible repeat (refine blk_alloc ?_ _));exact BK240.out) hb)
      have n11_:=Aside0.mk (blk_below (g:=gb248) (o:=.cells #[.slice Ao39 t241.length co39,.slice Ao44 t244.length co44] 34 (0,0)) (by (with_reducible repeat (refine blk_alloc ?_ _));exact BK248.out) hb)
      have n12_:=Aside0.mk (below_step (by repeat (first|(with_reducible first|exact HB.out|apply below_alloc|refine below_set ?_ GE218.out|refine below_set ?_ GE233.out|refine below_set ?_ GE240.out|refine below_set ?_ GE248.out)|exact HB.out)) hb)
      clear HO_234000
      clear HO_234001
      clear HO_241000
      clear HO_241001
      clear HO_249000
      clear HO_249001
      clear BK218
      clear BK233
      clear BK240
      clear BK248
      clear HB
      have HO_234000:=n0_
      have HO_234001:=n1_
      have HO_241000:=n2_
      have HO_241001:=n3_
      have HO_249000:=n4_
      have HO_249001:=n5_
      have HO252:=n6_
      have HO255:=n7_
      have BK218:=n8_
      have BK233:=n9_
      have BK240:=n10_
      have BK248:=n11_
      have HB:=n12_
      clear n0_ n1_ n2_ n3_ n4_ n5_ n6_ n7_ n8_ n9_ n10_ n11_ n12_
      (try clear hb)
      (try clear hb2)
      (try clear hk)
      (try clear hi)
      (try clear ho0)
      (try clear ho1)
      obtain ⟨Ao188,co188,eo188⟩:=Kd.R_slice HO252.out
      (first|subst eo188|(injection eo188 with f1_ f2_ f3_;have f4_:=f1_.symm;have f5_:=f3_.symm;clear f1_ f2_ f3_;subst f4_;subst f5_))
      obtain ⟨Ao189,co189,eo189⟩:=Kd.R_slice HO255.out
      (first|subst eo189|(injection eo189 with f1_ f2_ f3_;have f4_:=f1_.symm;have f5_:=f3_.symm;clear f1_ f2_ f3_;subst f4_;subst f5_))
      refine hK.out _ _ ⟨(blk_cell BK240.out 0).trans rfl,(blk_cell BK240.out 1).trans rfl,(blk_cell BK218.out 0).trans rfl,(blk_cell BK218.out 1).trans rfl⟩ (fun hHeld=>?_)
      clear hK K
      refine norm_ (a':=?_) ?_ ?_
      rotate_left
      ·show Act.put _ (some 51) _ = _
       simp only [Act.put,List.setIfInBounds_toArray,List.set_cons_zero,List.set_cons_succ,i64_w,i32_w]
       rfl
      refine one_ (i:=3) (N:=some 52) #[true,true,true,true,false] rfl rfl (by kernel_rfl) (by decide) (fun K hK=>?_)
      refine goes_ Try.func18 (by kernel_rfl) rfl #[.agg #[.slice Ao30 t234.length co30,.slice Ao34 t237.length co34],.agg #[.slice Ao188 t250.length co188,.slice Ao189 t253.length co189]] (by rfl) rfl rfl (by (try simp only [List.map_toArray,List.map_cons,List.map_nil]);first|done|rfl|(simp only [List.length_drop,List.length_take];rfl)) ?_
      with_reducible refine (laws_eqDisk.calls kj12 _ _ t234 _ _ t237 _ _ t250 _ _ t253 false _ ?side1 ?side2 ?side3 ?side4 ?side5 ?side6 ?side7 ?side8 A65.out).mono ?_
      (case side1=>repeat (first|exact (Kd.R_reads' HO_241000.out).2.2|(with_reducible refine Kd.C_alloc ?_ _)))
      (case side2=>exact (Kd.R_reads' HO_241000.out).2.1)
      (case side3=>repeat (first|exact (Kd.R_reads' HO_241001.out).2.2|(with_reducible refine Kd.C_alloc ?_ _)))
      (case side4=>exact (Kd.R_reads' HO_241001.out).2.1)
      (case side5=>repeat (first|exact (Kd.R_reads' HO252.out).2.2|(with_reducible refine Kd.C_alloc ?_ _)))
      (case side6=>exact (Kd.R_reads' HO252.out).2.1)
      (case side7=>repeat (first|exact (Kd.R_reads' HO255.out).2.2|(with_reducible refine Kd.C_alloc ?_ _)))
      (case side8=>exact (Kd.R_reads' HO255.out).2.1)
      rintro e w190 ⟨rfl,hb⟩
      refine ⟨_,rfl,?_⟩
      have n0_:=Aside0.mk (Kd.R_below (by (with_reducible repeat (first|apply Kd.R_alloc));exact HO_234000.out) hb)
      have n1_:=Aside0.mk (Kd.R_below (by (with_reducible repeat (first|apply Kd.R_alloc));exact HO_234001.out) hb)
      have n2_:=Aside0.mk (Kd.R_below (by (with_reducible repeat (first|apply Kd.R_alloc));exact HO_241000.out) hb)
      have n3_:=Aside0.mk (Kd.R_below (by (with_reducible repeat (first|apply Kd.R_alloc));exact HO_241001.out) hb)
      have n4_:=Aside0.mk (Kd.R_below (by (with_reducible repeat (first|apply Kd.R_alloc));exact HO_249000.out) hb)
      have n5_:=Aside0.mk (Kd.R_below (by (with_reducible repeat (first|apply Kd.R_alloc));exact HO_249001.out) hb)
      have n6_:=Aside0.mk (Kd.R_below (by (with_reducible repeat (first|apply Kd.R_alloc));exact HO252.out) hb)
      have n7_:=Aside0.mk (Kd.R_below (by (with_reducible repeat (first|apply Kd.R_alloc));exact HO255.out) hb)
      have n8_:=Aside0.mk (blk_below (g:=gb218) (o:=.cells #[.slice A0_0 l0_0.length c0_0,.slice A0_1 l0_1.length c0_1] 30 (0,0)) (by (with_reducible repeat (refine blk_alloc ?_ _));exact BK218.out) hb)
      have n9_:=Aside0.mk (blk_below (g:=gb233) (o:=.cells #[.slice Ao23 t226.length co23,.slice Ao26 t229.length co26] 34 (0,0)) (by (with_reducible repeat (refine blk_alloc ?_ _));exact BK233.out) hb)
      have n10_:=Aside0.mk (blk_below (g:=gb240) (o:=.cells #[.slice Ao30 t234.length co30,.slice Ao34 t237.length co34] 34 (0,0)) (by (with_reducible repeat (refine blk_alloc ?_ _));exact BK240.out) hb)
      have n11_:=Aside0.mk (blk_below (g:=gb248) (o:=.cells #[.slice Ao39 t241.length co39,.slice Ao44 t244.length co44] 34 (0,0)) (by (with_reducible repeat (refine blk_alloc ?_ _));exact BK248.out) hb)
      have n12_:=Aside0.mk (below_step (by repeat (first|(with_reducible first|exact HB.out|apply below_alloc|refine below_set ?_ GE218.out|refine below_set ?_ GE233.out|refine below_set ?_ GE240.out|refine below_set ?_ GE248.out)|exact HB.out)) hb)
      clear HO_234000
      clear HO_234001
      clear HO_241000
      clear HO_241001
      clear HO_249000
      clear HO_249001
      clear HO252
      clear HO255
      clear BK218
      clear BK233
      clear BK240
      clear BK248
      clear HB
      have HO_234000:=n0_
      have HO_234001:=n1_
      have HO_241000:=n2_
      have HO_241001:=n3_
      have HO_249000:=n4_
      have HO_249001:=n5_
      have HO252:=n6_
      have HO255:=n7_
      have BK218:=n8_
      have BK233:=n9_
      have BK240:=n10_
      have BK248:=n11_
      have HB:=n12_
      clear n0_ n1_ n2_ n3_ n4_ n5_ n6_ n7_ n8_ n9_ n10_ n11_ n12_
      (try clear hb)
      (try clear hb2)
      (try clear hk)
      (try clear hi)
      refine hK.out _ _ ⟨(blk_cell BK240.out 0).trans rfl,(blk_cell BK240.out 1).trans rfl,(blk_cell BK218.out 0).trans rfl,(blk_cell BK218.out 1).trans rfl⟩ (fun hHeld=>?_)
      clear hK K
      refine norm_ (a':=?_) ?_ ?_
      rotate_left
      ·show Act.put _ (some 52) _ = _
       simp only [Act.put,List.setIfInBounds_toArray,List.set_cons_zero,List.set_cons_succ,i64_w,i32_w]
       rfl
      refine pure_ (i:=4) (N:=some 53) (v:=?_) (a':=?_) #[true,true,true,true,true] rfl rfl (by kernel_rfl) (fun _ _ _ h=>h) (Or.inl ⟨by rfl,?_⟩) ?_ ?_
      rotate_left
      ·intro w'
       go_simp
       with_reducible rfl
      rotate_left
      ·simp only [Act.put,List.setIfInBounds_toArray,List.set_cons_zero,List.set_cons_succ,i64_w,i32_w]
       rfl
      refine done_ (by kernel_rfl) ?_
      try go_wp2
      go_ret
      exact ⟨by first|rfl|(simp [errW_none,errW_some] <;> rfl)|(simp [*,errW_none,errW_some] <;> rfl),by repeat (first|(with_reducible first|exact HB.out|apply below_alloc|refine below_set ?_ GE218.out|refine below_set ?_ GE233.out|refine below_set ?_ GE240.out|refine below_set ?_ GE248.out)|exact HB.out)⟩

/-- THE ONE PURE STATEMENT of laws_FnExactCrashDisk: yours. -/
def laws_FnExactCrashDisk.Pure:Prop:=∀ (l0_0:List ByteArray) (l0_1:List ByteArray) (a1:Int) (a2:Int),(l0_0.length ≤ maxLen ∧ ∀ a ∈ l0_0,a.size ≤ maxLen) → (l0_1.length ≤ maxLen ∧ ∀ a ∈ l0_1,a.size ≤ maxLen) → (Lit.int .i64 a1).wf = true → (Lit.int .i64 a2).wf = true → ∃ k,laws_FnExactCrashDisk.f k l0_0 l0_1 a1 a2 = some true

end Go.Proofs.Ytamiedpgahpihaa.QFnExactCrashDisk
