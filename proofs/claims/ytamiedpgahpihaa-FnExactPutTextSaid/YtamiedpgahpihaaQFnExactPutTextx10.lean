-- Written by this session's own program (wip/x/xprint.py, over the kit's printer); Lean checks it.
import Derived.Test.YtamiedpgahpihaaQFnExactPutTextx0
import Derived.Test.YtamiedpgahpihaaQFnExactPutTextx1
import Derived.Test.YtamiedpgahpihaaQFnExactPutTextx2
import Derived.Test.YtamiedpgahpihaaQFnExactPutTextx6
import Derived.Test.YtamiedpgahpihaaQFnExactPutTextx9
namespace Go.Proofs.Ytamiedpgahpihaa.QFnExactPutText
open Go.RowKit Go.Proofs.YtamiedpgahpihaaW.PrintWords Go.Proofs.YtamiedpgahpihaaW.PrintLast Go.Proofs.YtamiedpgahpihaaW.PrintMore
attribute [local go_sem] max2_int min2_int max_two min_two max_three min_three max_four min_four   -- for this text's walks alone
set_option linter.unusedVariables false
set_option linter.unusedSimpArgs false

/-! ### laws_FnExactPutText: function 7 -/
mutual
def laws_FnExactPutText.j0:Nat → ByteArray → Bool → Bool → Bool → List ByteArray → List ByteArray → List ByteArray → List ByteArray → List ByteArray → List ByteArray → List ByteArray → List ByteArray → Option (Bool)
 | 0,_,_,_,_,_,_,_,_,_,_,_,_=>none
 | k + 1,x1,x7,x10,x47,x319000,x319001,x334000,x334001,x341000,x341001,x349000,x349001=>if x47 = true then (some false) else ((laws_toDisk.f k x319000 x319001).bind fun bt350=>((laws_eqDisk.f k x341000 x341001 bt350.1 bt350.2).bind fun t356=>(if t356 = true then ((laws_markDisk.f k x341000 x341001 1).bind fun bt357=>(if bt357.1 < 0 then (laws_FnExactPutText.j1 k x1 x7 true x319000 x319001 x334000 x334001 x349000 x349001) else ((laws_eqDisk.f k x349000 x349001 x334000 x334001).bind fun t360=>(if t360 = true then (laws_FnExactPutText.j1 k x1 x7 (x10 != x7) x319000 x319001 x334000 x334001 x349000 x349001) else (laws_FnExactPutText.j1 k x1 x7 true x319000 x319001 x334000 x334001 x349000 x349001))))) else (some false))))
def laws_FnExactPutText.j1:Nat → ByteArray → Bool → Bool → List ByteArray → List ByteArray → List ByteArray → List ByteArray → List ByteArray → List ByteArray → Option (Bool)
 | 0,_,_,_,_,_,_,_,_,_=>none
 | k + 1,x1,x7,x68,x319000,x319001,x334000,x334001,x349000,x349001=>if x68 = true then (some false) else ((laws_markDisk.f k x349000 x349001 1).bind fun bt361=>((laws_heldDisk.f k bt361.2.1 bt361.2.2 1).bind fun t364=>(if t364 < 0 then (some false) else (if t364 = bt361.1 then ((laws_toDisk.f k x319000 x319001).bind fun bt365=>((impl_PutText.f k bt365.1 bt365.2 x1).bind fun bt371=>((laws_eqDisk.f k bt371.1 bt371.2.1 x334000 x334001).bind fun t379=>(if t379 = true then (laws_FnExactPutText.j2 k bt361.1 (bt371.2.2 != x7) bt361.2.1 bt361.2.2) else (laws_FnExactPutText.j2 k bt361.1 true bt361.2.1 bt361.2.2))))) else (some false)))))
def laws_FnExactPutText.j2:Nat → Int → Bool → List ByteArray → List ByteArray → Option (Bool)
 | 0,_,_,_,_=>none
 | k + 1,x12,x95,x349000,x349001=>if x95 = true then (some false) else ((laws_heldDisk.f k x349000 x349001 1).bind fun t380=>(if t380 < 0 then (some false) else (if t380 = x12 then (some true) else (some false))))
end
def laws_FnExactPutText.f (k:Nat) (l0_0:List ByteArray) (l0_1:List ByteArray) (a1:ByteArray):Option (Bool):=if (a1.size:Int) > 1048576 then (some true) else ((laws_szDisk.f k l0_0 l0_1 1048576).bind fun t319=>(if t319 < 0 then (some true) else ((laws_toDisk.f k l0_0 l0_1).bind fun bt320=>((spec_PutText.f k bt320.1 bt320.2 a1).bind fun bt326=>((laws_toDisk.f k l0_0 l0_1).bind fun bt334=>((impl_PutText.f k bt334.1 bt334.2 a1).bind fun bt341=>((laws_eqDisk.f k bt341.1 bt341.2.1 bt326.1 bt326.2.1).bind fun t349=>(if t349 = true then (laws_FnExactPutText.j0 k a1 bt326.2.2 bt341.2.2 (bt341.2.2 != bt326.2.2) l0_0 l0_1 bt326.1 bt326.2.1 bt334.1 bt334.2 bt341.1 bt341.2.1) else (laws_FnExactPutText.j0 k a1 bt326.2.2 bt341.2.2 true l0_0 l0_1 bt326.1 bt326.2.1 bt334.1 bt334.2 bt341.1 bt341.2.1)))))))))
theorem laws_FnExactPutText.mono_l:∀ k,(∀ y0 y1 y2 y3 y4 y5 y6 y7 y8 y9 y10 y11,LeO (laws_FnExactPutText.j0 k y0 y1 y2 y3 y4 y5 y6 y7 y8 y9 y10 y11) (laws_FnExactPutText.j0 (k + 1) y0 y1 y2 y3 y4 y5 y6 y7 y8 y9 y10 y11)) ∧ (∀ y0 y1 y2 y3 y4 y5 y6 y7 y8,LeO (laws_FnExactPutText.j1 k y0 y1 y2 y3 y4 y5 y6 y7 y8) (laws_FnExactPutText.j1 (k + 1) y0 y1 y2 y3 y4 y5 y6 y7 y8)) ∧ (∀ y0 y1 y2 y3,LeO (laws_FnExactPutText.j2 k y0 y1 y2 y3) (laws_FnExactPutText.j2 (k + 1) y0 y1 y2 y3))
 | 0=>⟨fun _ _ _ _ _ _ _ _ _ _ _ _ r h=>by simp [laws_FnExactPutText.j0] at h,fun _ _ _ _ _ _ _ _ _ r h=>by simp [laws_FnExactPutText.j1] at h,fun _ _ _ _ r h=>by simp [laws_FnExactPutText.j2] at h⟩
 | k + 1=>by
  obtain ⟨ih0,ih1,ih2⟩:=laws_FnExactPutText.mono_l k
  refine ⟨?_,?_,?_⟩
  ·intro y0 y1 y2 y3 y4 y5 y6 y7 y8 y9 y10 y11
   unfold laws_FnExactPutText.j0
   repeat' first
   | (with_reducible exact ih0 _ _ _ _ _ _ _ _ _ _ _ _)
   | (with_reducible exact ih1 _ _ _ _ _ _ _ _ _)
   | (with_reducible exact ih2 _ _ _ _)
   | (with_reducible exact impl_PutText.mono _ _ _ _)
   | (with_reducible exact laws_eqDisk.mono _ _ _ _ _)
   | (with_reducible exact laws_heldDisk.mono _ _ _ _)
   | (with_reducible exact laws_markDisk.mono _ _ _ _)
   | (with_reducible exact laws_szDisk.mono _ _ _ _)
   | (with_reducible exact laws_toDisk.mono _ _ _)
   | (with_reducible exact spec_PutText.mono _ _ _ _)
   | (with_reducible exact LeO.refl _)
   | (with_reducible exact LeO.none _)
   | (with_reducible refine LeO.ite ?_ ?_)
   | (with_reducible refine LeO.bind ?_ (fun _=>?_))
   | exact ih0 _ _ _ _ _ _ _ _ _ _ _ _
   | exact ih1 _ _ _ _ _ _ _ _ _
   | exact ih2 _ _ _ _
   | exact impl_PutText.mono _ _ _ _
   | exact laws_eqDisk.mono _ _ _ _ _
   | exact laws_heldDisk.mono _ _ _ _
   | exact laws_markDisk.mono _ _ _ _
   | exact laws_szDisk.mono _ _ _ _
   | exact laws_toDisk.mono _ _ _
   | exact spec_PutText.mono _ _ _ _
   | exact LeO.none _
   | refine LeO.ite ?_ ?_
   | refine LeO.bind ?_ (fun _=>?_)
  ·intro y0 y1 y2 y3 y4 y5 y6 y7 y8
   unfold laws_FnExactPutText.j1
   repeat' first
   | (with_reducible exact ih0 _ _ _ _ _ _ _ _ _ _ _ _)
   | (with_reducible exact ih1 _ _ _ _ _ _ _ _ _)
   | (with_reducible exact ih2 _ _ _ _)
   | (with_reducible exact impl_PutText.mono _ _ _ _)
   | (with_reducible exact laws_eqDisk.mono _ _ _ _ _)
   | (with_reducible exact laws_heldDisk.mono _ _ _ _)
   | (with_reducible exact laws_markDisk.mono _ _ _ _)
   | (with_reducible exact laws_szDisk.mono _ _ _ _)
   | (with_reducible exact laws_toDisk.mono _ _ _)
   | (with_reducible exact spec_PutText.mono _ _ _ _)
   | (with_reducible exact LeO.refl _)
   | (with_reducible exact LeO.none _)
   | (with_reducible refine LeO.ite ?_ ?_)
   | (with_reducible refine LeO.bind ?_ (fun _=>?_))
   | exact ih0 _ _ _ _ _ _ _ _ _ _ _ _
   | exact ih1 _ _ _ _ _ _ _ _ _
   | exact ih2 _ _ _ _
   | exact impl_PutText.mono _ _ _ _
   | exact laws_eqDisk.mono _ _ _ _ _
   | exact laws_heldDisk.mono _ _ _ _
   | exact laws_markDisk.mono _ _ _ _
   | exact laws_szDisk.mono _ _ _ _
   | exact laws_toDisk.mono _ _ _
   | exact spec_PutText.mono _ _ _ _
   | exact LeO.none _
   | refine LeO.ite ?_ ?_
   | refine LeO.bind ?_ (fun _=>?_)
  ·intro y0 y1 y2 y3
   unfold laws_FnExactPutText.j2
   repeat' first
   | (with_reducible exact ih0 _ _ _ _ _ _ _ _ _ _ _ _)
   | (with_reducible exact ih1 _ _ _ _ _ _ _ _ _)
   | (with_reducible exact ih2 _ _ _ _)
   | (with_reducible exact impl_PutText.mono _ _ _ _)
   | (with_reducible exact laws_eqDisk.mono _ _ _ _ _)
   | (with_reducible exact laws_heldDisk.mono _ _ _ _)
   | (with_reducible exact laws_markDisk.mono _ _ _ _)
   | (with_reducible exact laws_szDisk.mono _ _ _ _)
   | (with_reducible exact laws_toDisk.mono _ _ _)
   | (with_reducible exact spec_PutText.mono _ _ _ _)
   | (with_reducible exact LeO.refl _)
   | (with_reducible exact LeO.none _)
   | (with_reducible refine LeO.ite ?_ ?_)
   | (with_reducible refine LeO.bind ?_ (fun _=>?_))
   | exact ih0 _ _ _ _ _ _ _ _ _ _ _ _
   | exact ih1 _ _ _ _ _ _ _ _ _
   | exact ih2 _ _ _ _
   | exact impl_PutText.mono _ _ _ _
   | exact laws_eqDisk.mono _ _ _ _ _
   | exact laws_heldDisk.mono _ _ _ _
   | exact laws_markDisk.mono _ _ _ _
   | exact laws_szDisk.mono _ _ _ _
   | exact laws_toDisk.mono _ _ _
   | exact spec_PutText.mono _ _ _ _
   | exact LeO.none _
   | refine LeO.ite ?_ ?_
   | refine LeO.bind ?_ (fun _=>?_)
theorem laws_FnExactPutText.mono:∀ a0 a1 a2 k,LeO (laws_FnExactPutText.f k a0 a1 a2) (laws_FnExactPutText.f (k + 1) a0 a1 a2):=by
 intro a0 a1 a2 k
 obtain ⟨ih0,ih1,ih2⟩:=laws_FnExactPutText.mono_l k
 unfold laws_FnExactPutText.f
 repeat' first
   | (with_reducible exact ih0 _ _ _ _ _ _ _ _ _ _ _ _)
   | (with_reducible exact ih1 _ _ _ _ _ _ _ _ _)
   | (with_reducible exact ih2 _ _ _ _)
   | (with_reducible exact impl_PutText.mono _ _ _ _)
   | (with_reducible exact laws_eqDisk.mono _ _ _ _ _)
   | (with_reducible exact laws_heldDisk.mono _ _ _ _)
   | (with_reducible exact laws_markDisk.mono _ _ _ _)
   | (with_reducible exact laws_szDisk.mono _ _ _ _)
   | (with_reducible exact laws_toDisk.mono _ _ _)
   | (with_reducible exact spec_PutText.mono _ _ _ _)
   | (with_reducible exact LeO.refl _)
   | (with_reducible exact LeO.none _)
   | (with_reducible refine LeO.ite ?_ ?_)
   | (with_reducible refine LeO.bind ?_ (fun _=>?_))
   | exact ih0 _ _ _ _ _ _ _ _ _ _ _ _
   | exact ih1 _ _ _ _ _ _ _ _ _
   | exact ih2 _ _ _ _
   | exact impl_PutText.mono _ _ _ _
   | exact laws_eqDisk.mono _ _ _ _ _
   | exact laws_heldDisk.mono _ _ _ _
   | exact laws_markDisk.mono _ _ _ _
   | exact laws_szDisk.mono _ _ _ _
   | exact laws_toDisk.mono _ _ _
   | exact spec_PutText.mono _ _ _ _
   | exact LeO.none _
   | refine LeO.ite ?_ ?_
   | refine LeO.bind ?_ (fun _=>?_)
set_option maxHeartbeats 8000000 in
set_option maxRecDepth 100000 in
theorem laws_FnExactPutText.calls (k:Nat) (A0_0:Option Addr) (c0_0:Nat) (l0_0:List ByteArray) (A0_1:Option Addr) (c0_1:Nat) (l0_1:List ByteArray) (a1:ByteArray) (r:Bool) (w:World) (hr0_0:Kd.C Kd.string w A0_0 l0_0.length l0_0) (hc0_0:l0_0.length ≤ c0_0) (hr0_1:Kd.C Kd.string w A0_1 l0_1.length l0_1) (hc0_1:l0_1.length ≤ c0_1) (h:laws_FnExactPutText.f k l0_0 l0_1 a1 = some r) :
  Calls Try.prog 7 #[.agg #[.slice A0_0 l0_0.length c0_0,.slice A0_1 l0_1.length c0_1],.string a1] w fun e w'=>e = .returned (.bool r) ∧ Below w.heap.size w w':=by
 have hu30:=Try.underlying30
 have hu34:=Try.underlying34
 have HR0_0:=Aside0.mk hr0_0
 have HC0_0:=Aside0.mk hc0_0
 clear hr0_0 hc0_0
 have HR0_1:=Aside0.mk hr0_1
 have HC0_1:=Aside0.mk hc0_1
 clear hr0_1 hc0_1
 have HB:=Aside0.mk (Below.refl w.heap.size w)
 have H:(if (a1.size:Int) > 1048576 then (some true) else ((laws_szDisk.f k l0_0 l0_1 1048576).bind fun t319=>(if t319 < 0 then (some true) else ((laws_toDisk.f k l0_0 l0_1).bind fun bt320=>((spec_PutText.f k bt320.1 bt320.2 a1).bind fun bt326=>((laws_toDisk.f k l0_0 l0_1).bind fun bt334=>((impl_PutText.f k bt334.1 bt334.2 a1).bind fun bt341=>((laws_eqDisk.f k bt341.1 bt341.2.1 bt326.1 bt326.2.1).bind fun t349=>(if t349 = true then (laws_FnExactPutText.j0 k a1 bt326.2.2 bt341.2.2 (bt341.2.2 != bt326.2.2) l0_0 l0_1 bt326.1 bt326.2.1 bt334.1 bt334.2 bt341.1 bt341.2.1) else (laws_FnExactPutText.j0 k a1 bt326.2.2 bt341.2.2 true l0_0 l0_1 bt326.1 bt326.2.1 bt334.1 bt334.2 bt341.1 bt341.2.1)))))))))) = some r:=h
 clear h
 by_cases c3:(a1.size:Int) > 1048576
 ·rw [if_pos c3] at H
  have c3b0:decide (1048576 < (a1.size:Int)) = true:=decide_eq_true c3
  have c3b1:decide (1048576 < a1.size) = true:=decide_eq_true (by omega)
  clear c3
  obtain rfl:=Option.some.inj H
  go_enter Try.func7,Try.ntmps7
  go_wp2_with (first|((with_reducible refine gate_dst (N:=2) rfl ?_);refine box_event ?hg (N:=2) ?hd (cs:=#[.slice A0_0 l0_0.length c0_0,.slice A0_1 l0_1.length c0_1]) (t:=30) ?hr ?_;(case hd=>rfl);(case hg=>rfl);(case hr=>first|(go_simp;done)|(go_simp;rfl));intro gb318 hg w4 hbox hb;have n0_:=Aside0.mk (below_step (by repeat (first|(with_reducible first|exact HB.out|apply below_alloc)|exact HB.out)) hb);have n1_:=Aside0.mk (hbox);have n2_:=Aside0.mk ((by rw [hg];exact (below_size (by repeat (first|(with_reducible first|exact HB.out|apply below_alloc)|exact HB.out))):w.heap.size ≤ gb318));have n3_:=Aside0.mk ((by rw [hg];exact (below_size (by repeat (first|(with_reducible first|exact HB.out|apply below_alloc)|exact HB.out))):w.heap.size ≤ gb318));clear HB;have HB:=n0_;have BK318:=n1_;have GW318:=n2_;have GE318:=n3_;clear n0_ n1_ n2_ n3_;clear hb hbox hg))
  go_ret
  exact ⟨by first|rfl|(simp [errW_none,errW_some] <;> rfl)|(simp [*,errW_none,errW_some] <;> rfl),by repeat (first|(with_reducible first|exact HB.out|apply below_alloc|refine below_set ?_ GE318.out)|exact HB.out)⟩
 ·rw [if_neg c3] at H
  have c3b0:decide (1048576 < (a1.size:Int)) = false:=decide_eq_false c3
  have c3b1:decide (1048576 < a1.size) = false:=decide_eq_false (by omega)
  clear c3
  replace H:=Option.bind_eq_some_iff.mp H
  obtain ⟨t319,A50,H⟩:=H
  replace H:(if t319 < 0 then (some true) else ((laws_toDisk.f k l0_0 l0_1).bind fun bt320=>((spec_PutText.f k bt320.1 bt320.2 a1).bind fun bt326=>((laws_toDisk.f k l0_0 l0_1).bind fun bt334=>((impl_PutText.f k bt334.1 bt334.2 a1).bind fun bt341=>((laws_eqDisk.f k bt341.1 bt341.2.1 bt326.1 bt326.2.1).bind fun t349=>(if t349 = true then (laws_FnExactPutText.j0 k a1 bt326.2.2 bt341.2.2 (bt341.2.2 != bt326.2.2) l0_0 l0_1 bt326.1 bt326.2.1 bt334.1 bt334.2 bt341.1 bt341.2.1) else (laws_FnExactPutText.j0 k a1 bt326.2.2 bt341.2.2 true l0_0 l0_1 bt326.1 bt326.2.1 bt334.1 bt334.2 bt341.1 bt341.2.1)))))))) = some r:=H
  have A5:=Aside0.mk A50
  clear A50
  by_cases c6:t319 < 0
  ·rw [if_pos c6] at H
   have c6b0:decide (t319 < 0) = true:=decide_eq_true c6
   clear c6
   obtain rfl:=Option.some.inj H
   go_enter Try.func7,Try.ntmps7
   go_wp2_with (first|((with_reducible refine gate_dst (N:=2) rfl ?_);refine box_event ?hg (N:=2) ?hd (cs:=#[.slice A0_0 l0_0.length c0_0,.slice A0_1 l0_1.length c0_1]) (t:=30) ?hr ?_;(case hd=>rfl);(case hg=>rfl);(case hr=>first|(go_simp;done)|(go_simp;rfl));intro gb318 hg w7 hbox hb;have n0_:=Aside0.mk (below_step (by repeat (first|(with_reducible first|exact HB.out|apply below_alloc)|exact HB.out)) hb);have n1_:=Aside0.mk (hbox);have n2_:=Aside0.mk ((by rw [hg];exact (below_size (by repeat (first|(with_reducible first|exact HB.out|apply below_alloc)|exact HB.out))):w.heap.size ≤ gb318));have n3_:=Aside0.mk ((by rw [hg];exact (below_size (by repeat (first|(with_reducible first|exact HB.out|apply below_alloc)|exact HB.out))):w.heap.size ≤ gb318));clear HB;have HB:=n0_;have BK318:=n1_;have GW318:=n2_;have GE318:=n3_;clear n0_ n1_ n2_ n3_;clear hb hbox hg;have hcz8_0:w7.cell? ⟨gb318,0,none⟩ = some (.slice A0_0 l0_0.length c0_0):=(blk_cell BK318.out 0).trans rfl;have hcz8_1:w7.cell? ⟨gb318,1,none⟩ = some (.slice A0_1 l0_1.length c0_1):=(blk_cell BK318.out 1).trans rfl;have hfz8_0:=blk_frozen BK318.out 0;have hfz8_1:=blk_frozen BK318.out 1)|((with_reducible refine gate_callee (f:=13) rfl ?_);refine goesL_ (some 21) rfl rfl Try.func13 (by kernel_rfl) rfl #[.agg #[.slice A0_0 l0_0.length c0_0,.slice A0_1 l0_1.length c0_1],.int .i64 1048576] rfl (by (try simp only [List.map_toArray,List.map_cons,List.map_nil]);first|done|rfl|(simp only [List.length_drop,List.length_take];rfl)) ?_;(with_reducible refine (laws_szDisk.calls k _ _ l0_0 _ _ l0_1 1048576 t319 _ ?side1 ?side2 ?side3 ?side4 A5.out).mono ?_);(case side1=>repeat (first|exact (Kd.C_below HR0_0.out HB.out)|(with_reducible refine Kd.C_alloc ?_ _)));(case side2=>exact HC0_0.out);(case side3=>repeat (first|exact (Kd.C_below HR0_1.out HB.out)|(with_reducible refine Kd.C_alloc ?_ _)));(case side4=>exact HC0_1.out);rintro e w9 ⟨rfl,hb⟩;refine ⟨_,rfl,?_⟩;have n0_:=Aside0.mk (blk_below (g:=gb318) (o:=.cells #[.slice A0_0 l0_0.length c0_0,.slice A0_1 l0_1.length c0_1] 30 (0,0)) (by (with_reducible repeat (refine blk_alloc ?_ _));exact BK318.out) hb);have n1_:=Aside0.mk (below_step (by repeat (first|(with_reducible first|exact HB.out|apply below_alloc|refine below_set ?_ GE318.out)|exact HB.out)) hb);clear BK318;clear HB;have BK318:=n0_;have HB:=n1_;clear n0_ n1_;(try clear hb);(try clear hb2);(try clear hk);(try clear hi)))
   go_ret
   exact ⟨by first|rfl|(simp [errW_none,errW_some] <;> rfl)|(simp [*,errW_none,errW_some] <;> rfl),by repeat (first|(with_reducible first|exact HB.out|apply below_alloc|refine below_set ?_ GE318.out)|exact HB.out)⟩
  ·rw [if_neg c6] at H
   have c6b0:decide (t319 < 0) = false:=decide_eq_false c6
   clear c6
   replace H:=Option.bind_eq_some_iff.mp H
   obtain ⟨⟨t320,t323⟩,A100,H⟩:=H
   replace H:((spec_PutText.f k t320 t323 a1).bind fun bt326=>((laws_toDisk.f k l0_0 l0_1).bind fun bt334=>((impl_PutText.f k bt334.1 bt334.2 a1).bind fun bt341=>((laws_eqDisk.f k bt341.1 bt341.2.1 bt326.1 bt326.2.1).bind fun t349=>(if t349 = true then (laws_FnExactPutText.j0 k a1 bt326.2.2 bt341.2.2 (bt341.2.2 != bt326.2.2) l0_0 l0_1 bt326.1 bt326.2.1 bt334.1 bt334.2 bt341.1 bt341.2.1) else (laws_FnExactPutText.j0 k a1 bt326.2.2 bt341.2.2 true l0_0 l0_1 bt326.1 bt326.2.1 bt334.1 bt334.2 bt341.1 bt341.2.1)))))) = some r:=H
   have A10:=Aside0.mk A100
   clear A100
   replace H:=Option.bind_eq_some_iff.mp H
   obtain ⟨⟨t326,t329,t332⟩,A110,H⟩:=H
   replace H:((laws_toDisk.f k l0_0 l0_1).bind fun bt334=>((impl_PutText.f k bt334.1 bt334.2 a1).bind fun bt341=>((laws_eqDisk.f k bt341.1 bt341.2.1 t326 t329).bind fun t349=>(if t349 = true then (laws_FnExactPutText.j0 k a1 t332 bt341.2.2 (bt341.2.2 != t332) l0_0 l0_1 t326 t329 bt334.1 bt334.2 bt341.1 bt341.2.1) else (laws_FnExactPutText.j0 k a1 t332 bt341.2.2 true l0_0 l0_1 t326 t329 bt334.1 bt334.2 bt341.1 bt341.2.1))))) = some r:=H
   have A11:=Aside0.mk A110
   clear A110
   replace H:=Option.bind_eq_some_iff.mp H
   obtain ⟨⟨t334,t337⟩,A120,H⟩:=H
   replace H:((impl_PutText.f k t334 t337 a1).bind fun bt341=>((laws_eqDisk.f k bt341.1 bt341.2.1 t326 t329).bind fun t349=>(if t349 = true then (laws_FnExactPutText.j0 k a1 t332 bt341.2.2 (bt341.2.2 != t332) l0_0 l0_1 t326 t329 t334 t337 bt341.1 bt341.2.1) else (laws_FnExactPutText.j0 k a1 t332 bt341.2.2 true l0_0 l0_1 t326 t329 t334 t337 bt341.1 bt341.2.1)))) = some r:=H
   have A12:=Aside0.mk A120
   clear A120
   replace H:=Option.bind_eq_some_iff.mp H
   obtain ⟨⟨t341,t344,t347⟩,A130,H⟩:=H
   replace H:((laws_eqDisk.f k t341 t344 t326 t329).bind fun t349=>(if t349 = true then (laws_FnExactPutText.j0 k a1 t332 t347 (t347 != t332) l0_0 l0_1 t326 t329 t334 t337 t341 t344) else (laws_FnExactPutText.j0 k a1 t332 t347 true l0_0 l0_1 t326 t329 t334 t337 t341 t344))) = some r:=H
   have A13:=Aside0.mk A130
   clear A130
   have HC14:=Aside0.mk H
   clear H
   go_enter Try.func7,Try.ntmps7
   go_upto_region 10 with (first|((with_reducible refine gate_dst (N:=2) rfl ?_);refine box_event ?hg (N:=2) ?hd (cs:=#[.slice A0_0 l0_0.length c0_0,.slice A0_1 l0_1.length c0_1]) (t:=30) ?hr ?_;(case hd=>rfl);(case hg=>rfl);(case hr=>first|(go_simp;done)|(go_simp;rfl));intro gb318 hg w15 hbox hb;have n0_:=Aside0.mk (below_step (by repeat (first|(with_reducible first|exact HB.out|apply below_alloc)|exact HB.out)) hb);have n1_:=Aside0.mk (hbox);have n2_:=Aside0.mk ((by rw [hg];exact (below_size (by repeat (first|(with_reducible first|exact HB.out|apply below_alloc)|exact HB.out))):w.heap.size ≤ gb318));have n3_:=Aside0.mk ((by rw [hg];exact (below_size (by repeat (first|(with_reducible first|exact HB.out|apply below_alloc)|exact HB.out))):w.heap.size ≤ gb318));clear HB;have HB:=n0_;have BK318:=n1_;have GW318:=n2_;have GE318:=n3_;clear n0_ n1_ n2_ n3_;clear hb hbox hg;have hcz16_0:w15.cell? ⟨gb318,0,none⟩ = some (.slice A0_0 l0_0.length c0_0):=(blk_cell BK318.out 0).trans rfl;have hcz16_1:w15.cell? ⟨gb318,1,none⟩ = some (.slice A0_1 l0_1.length c0_1):=(blk_cell BK318.out 1).trans rfl;have hfz16_0:=blk_frozen BK318.out 0;have hfz16_1:=blk_frozen BK318.out 1)|((with_reducible refine gate_callee (f:=13) rfl ?_);refine goesL_ (some 21) rfl rfl Try.func13 (by kernel_rfl) rfl #[.agg #[.slice A0_0 l0_0.length c0_0,.slice A0_1 l0_1.length c0_1],.int .i64 1048576] rfl (by (try simp only [List.map_toArray,List.map_cons,List.map_nil]);first|done|rfl|(simp only [List.length_drop,List.length_take];rfl)) ?_;(with_reducible refine (laws_szDisk.calls k _ _ l0_0 _ _ l0_1 1048576 t319 _ ?side1 ?side2 ?side3 ?side4 A5.out).mono ?_);(case side1=>repeat (first|exact (Kd.C_below HR0_0.out HB.out)|(with_reducible refine Kd.C_alloc ?_ _)));(case side2=>exact HC0_0.out);(case side3=>repeat (first|exact (Kd.C_below HR0_1.out HB.out)|(with_reducible refine Kd.C_alloc ?_ _)));(case side4=>exact HC0_1.out);rintro e w17 ⟨rfl,hb⟩;refine ⟨_,rfl,?_⟩;have n0_:=Aside0.mk (blk_below (g:=gb318) (o:=.cells #[.slice A0_0 l0_0.length c0_0,.slice A0_1 l0_1.length c0_1] 30 (0,0)) (by (with_reducible repeat (refine blk_alloc ?_ _));exact BK318.out) hb);have n1_:=Aside0.mk (below_step (by repeat (first|(with_reducible first|exact HB.out|apply below_alloc|refine below_set ?_ GE318.out)|exact HB.out)) hb);clear BK318;clear HB;have BK318:=n0_;have HB:=n1_;clear n0_ n1_;(try clear hb);(try clear hb2);(try clear hk);(try clear hi);have hcz18_0:w17.cell? ⟨gb318,0,none⟩ = some (.slice A0_0 l0_0.length c0_0):=(blk_cell BK318.out 0).trans rfl;have hcz18_1:w17.cell? ⟨gb318,1,none⟩ = some (.slice A0_1 l0_1.length c0_1):=(blk_cell BK318.out 1).trans rfl;have hfz18_0:=blk_frozen BK318.out 0;have hfz18_1:=blk_frozen BK318.out 1)|((with_reducible refine gate_callee (f:=15) rfl ?_);refine goesL_ (some 26) rfl rfl Try.func15 (by kernel_rfl) rfl #[.agg #[.slice A0_0 l0_0.length c0_0,.slice A0_1 l0_1.length c0_1]] rfl (by (try simp only [List.map_toArray,List.map_cons,List.map_nil]);first|done|rfl|(simp only [List.length_drop,List.length_take];rfl)) ?_;(with_reducible refine (laws_toDisk.calls k _ _ l0_0 _ _ l0_1 t320 t323 _ ?side1 ?side2 ?side3 ?side4 A10.out).mono ?_);(case side1=>repeat (first|exact (Kd.C_below HR0_0.out HB.out)|(with_reducible refine Kd.C_alloc ?_ _)));(case side2=>exact HC0_0.out);(case side3=>repeat (first|exact (Kd.C_below HR0_1.out HB.out)|(with_reducible refine Kd.C_alloc ?_ _)));(case side4=>exact HC0_1.out);rintro e w19 ⟨v321,v324,rfl,ho0,ho1,hb⟩;refine ⟨_,rfl,?_⟩;have n0_:=Aside0.mk (Kd.R_lower ho0 (below_size (by repeat (first|(with_reducible first|exact HB.out|apply below_alloc|refine below_set ?_ GE318.out)|exact HB.out))));have n1_:=Aside0.mk (Kd.R_lower ho1 (below_size (by repeat (first|(with_reducible first|exact HB.out|apply below_alloc|refine below_set ?_ GE318.out)|exact HB.out))));have n2_:=Aside0.mk (blk_below (g:=gb318) (o:=.cells #[.slice A0_0 l0_0.length c0_0,.slice A0_1 l0_1.length c0_1] 30 (0,0)) (by (with_reducible repeat (refine blk_alloc ?_ _));exact BK318.out) hb);have n3_:=Aside0.mk (below_step (by repeat (first|(with_reducible first|exact HB.out|apply below_alloc|refine below_set ?_ GE318.out)|exact HB.out)) hb);clear BK318;clear HB;have HO322:=n0_;have HO325:=n1_;have BK318:=n2_;have HB:=n3_;clear n0_ n1_ n2_ n3_;(try clear hb);(try clear hb2);(try clear hk);(try clear hi);(try clear ho0);(try clear ho1);obtain ⟨Ao20,co20,eo20⟩:=Kd.R_slice HO322.out;subst eo20;obtain ⟨Ao21,co21,eo21⟩:=Kd.R_slice HO325.out;subst eo21)|((with_reducible refine gate_callee (f:=25) rfl ?_);refine goesL_ (some 28) rfl rfl Try.func25 (by kernel_rfl) rfl #[.agg #[.slice Ao20 t320.length co20,.slice Ao21 t323.length co21],.string a1] rfl (by (try simp only [List.map_toArray,List.map_cons,List.map_nil]);first|done|rfl|(simp only [List.length_drop,List.length_take];rfl)) ?_;(with_reducible refine (spec_PutText.calls k _ _ t320 _ _ t323 a1 t326 t329 t332 _ ?side1 ?side2 ?side3 ?side4 A11.out).mono ?_);(case side1=>repeat (first|exact (Kd.R_reads' HO322.out).2.2|(with_reducible refine Kd.C_alloc ?_ _)));(case side2=>exact (Kd.R_reads' HO322.out).2.1);(case side3=>repeat (first|exact (Kd.R_reads' HO325.out).2.2|(with_reducible refine Kd.C_alloc ?_ _)));(case side4=>exact (Kd.R_reads' HO325.out).2.1);rintro e w22 ⟨v327,v330,rfl,ho0,ho1,hb⟩;refine ⟨_,rfl,?_⟩;have n0_:=Aside0.mk (Kd.R_mono (Kd.R_told (Kd.R_told (Kd.R_old (by (with_reducible repeat (first|apply Kd.R_alloc));exact HO322.out) hb) (Kd.R_base ho0)) (Kd.R_base ho1)) (fun _ h_=>h_.1));have n1_:=Aside0.mk (Kd.R_mono (Kd.R_told (Kd.R_told (Kd.R_old (by (with_reducible repeat (first|apply Kd.R_alloc));exact HO325.out) hb) (Kd.R_base ho0)) (Kd.R_base ho1)) (fun _ h_=>h_.1));have n2_:=Aside0.mk (Kd.R_lower (Kd.R_new' (Kd.R_new' ho0 (Kd.R_lt (by (with_reducible repeat (first|apply Kd.R_alloc));exact HO322.out))) (Kd.R_lt (by (with_reducible repeat (first|apply Kd.R_alloc));exact HO325.out))) (below_size (by repeat (first|(with_reducible first|exact HB.out|apply below_alloc|refine below_set ?_ GE318.out)|exact HB.out))));have n3_:=Aside0.mk (Kd.R_lower (Kd.R_new' (Kd.R_new' ho1 (Kd.R_lt (by (with_reducible repeat (first|apply Kd.R_alloc));exact HO322.out))) (Kd.R_lt (by (with_reducible repeat (first|apply Kd.R_alloc));exact HO325.out))) (below_size (by repeat (first|(with_reducible first|exact HB.out|apply below_alloc|refine below_set ?_ GE318.out)|exact HB.out))));have n4_:=Aside0.mk (blk_below (g:=gb318) (o:=.cells #[.slice A0_0 l0_0.length c0_0,.slice A0_1 l0_1.length c0_1] 30 (0,0)) (by (with_reducible repeat (refine blk_alloc ?_ _));exact BK318.out) hb);have n5_:=Aside0.mk (below_step (by repeat (first|(with_reducible first|exact HB.out|apply below_alloc|refine below_set ?_ GE318.out)|exact HB.out)) hb);clear HO322;clear HO325;clear BK318;clear HB;have HO322:=n0_;have HO325:=n1_;have HO328:=n2_;have HO331:=n3_;have BK318:=n4_;have HB:=n5_;clear n0_ n1_ n2_ n3_ n4_ n5_;(try clear hb);(try clear hb2);(try clear hk);(try clear hi);(try clear ho0);(try clear ho1))|((with_reducible refine gate_dst (N:=6) rfl ?_);refine box_event ?hg (N:=6) ?hd (cs:=#[.slice none 0 0,.slice none 0 0]) (t:=34) ?hr ?_;(case hd=>rfl);(case hg=>rfl);(case hr=>first|(go_simp;done)|(go_simp;rfl));intro gb333 hg w23 hbox hb;have n0_:=Aside0.mk (Kd.R_below (by (with_reducible repeat (first|apply Kd.R_alloc));exact HO322.out) hb);have n1_:=Aside0.mk (Kd.R_below (by (with_reducible repeat (first|apply Kd.R_alloc));exact HO325.out) hb);have n2_:=Aside0.mk (Kd.R_below (by (with_reducible repeat (first|apply Kd.R_alloc));exact HO328.out) hb);have n3_:=Aside0.mk (Kd.R_below (by (with_reducible repeat (first|apply Kd.R_alloc));exact HO331.out) hb);have n4_:=Aside0.mk (blk_below (g:=gb318) (o:=.cells #[.slice A0_0 l0_0.length c0_0,.slice A0_1 l0_1.length c0_1] 30 (0,0)) (by (with_reducible repeat (refine blk_alloc ?_ _));exact BK318.out) hb);have n5_:=Aside0.mk (below_step (by repeat (first|(with_reducible first|exact HB.out|apply below_alloc|refine below_set ?_ GE318.out)|exact HB.out)) hb);have n6_:=Aside0.mk (hbox);have n7_:=Aside0.mk ((by rw [hg];exact (below_size (by repeat (first|(with_reducible first|exact HB.out|apply below_alloc|refine below_set ?_ GE318.out)|exact HB.out))):w.heap.size ≤ gb333));have n8_:=Aside0.mk ((by rw [hg];exact (below_size (by repeat (first|(with_reducible first|exact HB.out|apply below_alloc|refine below_set ?_ GE318.out)|exact HB.out))):w.heap.size ≤ gb333));have n9_:=Aside0.mk ((by rw [hg];exact Nat.ne_of_lt (blk_lt (g:=gb318) (o:=.cells #[.slice A0_0 l0_0.length c0_0,.slice A0_1 l0_1.length c0_1] 30 (0,0)) (by (with_reducible repeat (refine blk_alloc ?_ _));exact BK318.out)):gb318 ≠ gb333));have n10_:=Aside0.mk ((by rw [hg];exact Nat.ne_of_gt (blk_lt (g:=gb318) (o:=.cells #[.slice A0_0 l0_0.length c0_0,.slice A0_1 l0_1.length c0_1] 30 (0,0)) (by (with_reducible repeat (refine blk_alloc ?_ _));exact BK318.out)):gb333 ≠ gb318));clear HO322;clear HO325;clear HO328;clear HO331;clear BK318;clear HB;have HO322:=n0_;have HO325:=n1_;have HO328:=n2_;have HO331:=n3_;have BK318:=n4_;have HB:=n5_;have BK333:=n6_;have GW333:=n7_;have GE333:=n8_;have NB318_333:=n9_;have NB333_318:=n10_;clear n0_ n1_ n2_ n3_ n4_ n5_ n6_ n7_ n8_ n9_ n10_;clear hb hbox hg;obtain ⟨Ao24,co24,eo24⟩:=Kd.R_slice HO328.out;subst eo24;have hnb25:=NB333_318.out;have hnc25:=NB318_333.out;have hcz26_0:w23.cell? ⟨gb333,0,none⟩ = some (.slice none 0 0):=(blk_cell BK333.out 0).trans rfl;have hcz26_1:w23.cell? ⟨gb333,1,none⟩ = some (.slice none 0 0):=(blk_cell BK333.out 1).trans rfl;have hfz26_0:=blk_frozen BK333.out 0;have hfz26_1:=blk_frozen BK333.out 1;obtain ⟨Ao27,co27,eo27⟩:=Kd.R_slice HO331.out;subst eo27;have hcz28_0:w23.cell? ⟨gb318,0,none⟩ = some (.slice A0_0 l0_0.length c0_0):=(blk_cell BK318.out 0).trans rfl;have hcz28_1:w23.cell? ⟨gb318,1,none⟩ = some (.slice A0_1 l0_1.length c0_1):=(blk_cell BK318.out 1).trans rfl;have hfz28_0:=blk_frozen BK318.out 0;have hfz28_1:=blk_frozen BK318.out 1)|((with_reducible refine gate_callee (f:=15) rfl ?_);refine goesL_ (some 32) rfl rfl Try.func15 (by kernel_rfl) rfl #[.agg #[.slice A0_0 l0_0.length c0_0,.slice A0_1 l0_1.length c0_1]] rfl (by (try simp only [List.map_toArray,List.map_cons,List.map_nil]);first|done|rfl|(simp only [List.length_drop,List.length_take];rfl)) ?_;(with_reducible refine (laws_toDisk.calls k _ _ l0_0 _ _ l0_1 t334 t337 _ ?side1 ?side2 ?side3 ?side4 A12.out).mono ?_);(case side1=>exact Kd.C_below HR0_0.out (by repeat (first|(with_reducible first|exact HB.out|apply below_alloc|refine below_set ?_ GE318.out|refine below_set ?_ GE333.out)|exact HB.out)));(case side2=>exact HC0_0.out);(case side3=>exact Kd.C_below HR0_1.out (by repeat (first|(with_reducible first|exact HB.out|apply below_alloc|refine below_set ?_ GE318.out|refine below_set ?_ GE333.out)|exact HB.out)));(case side4=>exact HC0_1.out);rintro e w29 ⟨v335,v338,rfl,ho0,ho1,hb⟩;refine ⟨_,rfl,?_⟩;have n0_:=Aside0.mk (Kd.R_mono (Kd.R_told (Kd.R_told (Kd.R_old (by (with_reducible repeat (first|apply Kd.R_alloc));exact (Kd.R_mono (Kd.R_far (p:=⟨gb333,1,none⟩) (Kd.R_far (p:=⟨gb333,0,none⟩) (Kd.R_types HO322.out BK333.out (by decide)) (fun _ hk=>hk.2) (.slice Ao24 t326.length co24)) (fun _ hk=>hk.2) (.slice Ao27 t329.length co27)) (fun _ h_=>h_.1))) hb) (Kd.R_base ho0)) (Kd.R_base ho1)) (fun _ h_=>h_.1));have n1_:=Aside0.mk (Kd.R_mono (Kd.R_told (Kd.R_told (Kd.R_old (by (with_reducible repeat (first|apply Kd.R_alloc));exact (Kd.R_mono (Kd.R_far (p:=⟨gb333,1,none⟩) (Kd.R_far (p:=⟨gb333,0,none⟩) (Kd.R_types HO325.out BK333.out (by decide)) (fun _ hk=>hk.2) (.slice Ao24 t326.length co24)) (fun _ hk=>hk.2) (.slice Ao27 t329.length co27)) (fun _ h_=>h_.1))) hb) (Kd.R_base ho0)) (Kd.R_base ho1)) (fun _ h_=>h_.1));have n2_:=Aside0.mk (Kd.R_mono (Kd.R_told (Kd.R_told (Kd.R_old (by (with_reducible repeat (first|apply Kd.R_alloc));exact (Kd.R_mono (Kd.R_far (p:=⟨gb333,1,none⟩) (Kd.R_far (p:=⟨gb333,0,none⟩) (Kd.R_types HO328.out BK333.out (by decide)) (fun _ hk=>hk.2) (.slice Ao24 t326.length co24)) (fun _ hk=>hk.2) (.slice Ao27 t329.length co27)) (fun _ h_=>h_.1))) hb) (Kd.R_base ho0)) (Kd.R_base ho1)) (fun _ h_=>h_.1));have n3_:=Aside0.mk (Kd.R_mono (Kd.R_told (Kd.R_told (Kd.R_old (by (with_reducible repeat (first|apply Kd.R_alloc));exact (Kd.R_mono (Kd.R_far (p:=⟨gb333,1,none⟩) (Kd.R_far (p:=⟨gb333,0,none⟩) (Kd.R_types HO331.out BK333.out (by decide)) (fun _ hk=>hk.2) (.slice Ao24 t326.length co24)) (fun _ hk=>hk.2) (.slice Ao27 t329.length co27)) (fun _ h_=>h_.1))) hb) (Kd.R_base ho0)) (Kd.R_base ho1)) (fun _ h_=>h_.1));have n4_:=Aside0.mk (Kd.R_lower (Kd.R_new' (Kd.R_new' (Kd.R_new' (Kd.R_new' ho0 (Kd.R_lt (by (with_reducible repeat (first|apply Kd.R_alloc));exact (Kd.R_mono (Kd.R_far (p:=⟨gb333,1,none⟩) (Kd.R_far (p:=⟨gb333,0,none⟩) (Kd.R_types HO322.out BK333.out (by decide)) (fun _ hk=>hk.2) (.slice Ao24 t326.length co24)) (fun _ hk=>hk.2) (.slice Ao27 t329.length co27)) (fun _ h_=>h_.1))))) (Kd.R_lt (by (with_reducible repeat (first|apply Kd.R_alloc));exact (Kd.R_mono (Kd.R_far (p:=⟨gb333,1,none⟩) (Kd.R_far (p:=⟨gb333,0,none⟩) (Kd.R_types HO325.out BK333.out (by decide)) (fun _ hk=>hk.2) (.slice Ao24 t326.length co24)) (fun _ hk=>hk.2) (.slice Ao27 t329.length co27)) (fun _ h_=>h_.1))))) (Kd.R_lt (by (with_reducible repeat (first|apply Kd.R_alloc));exact (Kd.R_mono (Kd.R_far (p:=⟨gb333,1,none⟩) (Kd.R_far (p:=⟨gb333,0,none⟩) (Kd.R_types HO328.out BK333.out (by decide)) (fun _ hk=>hk.2) (.slice Ao24 t326.length co24)) (fun _ hk=>hk.2) (.slice Ao27 t329.length co27)) (fun _ h_=>h_.1))))) (Kd.R_lt (by (with_reducible repeat (first|apply Kd.R_alloc));exact (Kd.R_mono (Kd.R_far (p:=⟨gb333,1,none⟩) (Kd.R_far (p:=⟨gb333,0,none⟩) (Kd.R_types HO331.out BK333.out (by decide)) (fun _ hk=>hk.2) (.slice Ao24 t326.length co24)) (fun _ hk=>hk.2) (.slice Ao27 t329.length co27)) (fun _ h_=>h_.1))))) (below_size (by repeat (first|(with_reducible first|exact HB.out|apply below_alloc|refine below_set ?_ GE318.out|refine below_set ?_ GE333.out)|exact HB.out))));have n5_:=Aside0.mk (Kd.R_lower (Kd.R_new' (Kd.R_new' (Kd.R_new' (Kd.R_new' ho1 (Kd.R_lt (by (with_reducible repeat (first|apply Kd.R_alloc));exact (Kd.R_mono (Kd.R_far (p:=⟨gb333,1,none⟩) (Kd.R_far (p:=⟨gb333,0,none⟩) (Kd.R_types HO322.out BK333.out (by decide)) (fun _ hk=>hk.2) (.slice Ao24 t326.length co24)) (fun _ hk=>hk.2) (.slice Ao27 t329.length co27)) (fun _ h_=>h_.1))))) (Kd.R_lt (by (with_reducible repeat (first|apply Kd.R_alloc));exact (Kd.R_mono (Kd.R_far (p:=⟨gb333,1,none⟩) (Kd.R_far (p:=⟨gb333,0,none⟩) (Kd.R_types HO325.out BK333.out (by decide)) (fun _ hk=>hk.2) (.slice Ao24 t326.length co24)) (fun _ hk=>hk.2) (.slice Ao27 t329.length co27)) (fun _ h_=>h_.1))))) (Kd.R_lt (by (with_reducible repeat (first|apply Kd.R_alloc));exact (Kd.R_mono (Kd.R_far (p:=⟨gb333,1,none⟩) (Kd.R_far (p:=⟨gb333,0,none⟩) (Kd.R_types HO328.out BK333.out (by decide)) (fun _ hk=>hk.2) (.slice Ao24 t326.length co24)) (fun _ hk=>hk.2) (.slice Ao27 t329.length co27)) (fun _ h_=>h_.1))))) (Kd.R_lt (by (with_reducible repeat (first|apply Kd.R_alloc));exact (Kd.R_mono (Kd.R_far (p:=⟨gb333,1,none⟩) (Kd.R_far (p:=⟨gb333,0,none⟩) (Kd.R_types HO331.out BK333.out (by decide)) (fun _ hk=>hk.2) (.slice Ao24 t326.length co24)) (fun _ hk=>hk.2) (.slice Ao27 t329.length co27)) (fun _ h_=>h_.1))))) (below_size (by repeat (first|(with_reducible first|exact HB.out|apply below_alloc|refine below_set ?_ GE318.out|refine below_set ?_ GE333.out)|exact HB.out))));have n6_:=Aside0.mk (blk_below (g:=gb318) (o:=.cells #[.slice A0_0 l0_0.length c0_0,.slice A0_1 l0_1.length c0_1] 30 (0,0)) (by (with_reducible repeat (refine blk_alloc ?_ _));refine blk_far ?_ NB318_333.out _;(with_reducible repeat (refine blk_alloc ?_ _));refine blk_far ?_ NB318_333.out _;(with_reducible repeat (refine blk_alloc ?_ _));exact BK318.out) hb);have n7_:=Aside0.mk (blk_below (g:=gb333) (o:=.cells #[.slice Ao24 t326.length co24,.slice Ao27 t329.length co27] 34 (0,0)) (by (with_reducible repeat (refine blk_alloc ?_ _));refine blk_put (cs:=#[.slice Ao24 t326.length co24,.slice none 0 0]) ?_ 1 _ rfl;(with_reducible repeat (refine blk_alloc ?_ _));refine blk_put (cs:=#[.slice none 0 0,.slice none 0 0]) ?_ 0 _ rfl;(with_reducible repeat (refine blk_alloc ?_ _));exact BK333.out) hb);have n8_:=Aside0.mk (below_step (by repeat (first|(with_reducible first|exact HB.out|apply below_alloc|refine below_set ?_ GE318.out|refine below_set ?_ GE333.out)|exact HB.out)) hb);clear HO322;clear HO325;clear HO328;clear HO331;clear BK318;clear BK333;clear HB;have HO322:=n0_;have HO325:=n1_;have HO328:=n2_;have HO331:=n3_;have HO336:=n4_;have HO339:=n5_;have BK318:=n6_;have BK333:=n7_;have HB:=n8_;clear n0_ n1_ n2_ n3_ n4_ n5_ n6_ n7_ n8_;(try clear hb);(try clear hb2);(try clear hk);(try clear hi);(try clear ho0);(try clear ho1))|((with_reducible refine gate_dst (N:=8) rfl ?_);refine box_event ?hg (N:=8) ?hd (cs:=#[.slice none 0 0,.slice none 0 0]) (t:=34) ?hr ?_;(case hd=>rfl);(case hg=>rfl);(case hr=>first|(go_simp;done)|(go_simp;rfl));intro gb340 hg w30 hbox hb;have n0_:=Aside0.mk (Kd.R_below (by (with_reducible repeat (first|apply Kd.R_alloc));exact HO322.out) hb);have n1_:=Aside0.mk (Kd.R_below (by (with_reducible repeat (first|apply Kd.R_alloc));exact HO325.out) hb);have n2_:=Aside0.mk (Kd.R_below (by (with_reducible repeat (first|apply Kd.R_alloc));exact HO328.out) hb);have n3_:=Aside0.mk (Kd.R_below (by (with_reducible repeat (first|apply Kd.R_alloc));exact HO331.out) hb);have n4_:=Aside0.mk (Kd.R_below (by (with_reducible repeat (first|apply Kd.R_alloc));exact HO336.out) hb);have n5_:=Aside0.mk (Kd.R_below (by (with_reducible repeat (first|apply Kd.R_alloc));exact HO339.out) hb);have n6_:=Aside0.mk (blk_below (g:=gb318) (o:=.cells #[.slice A0_0 l0_0.length c0_0,.slice A0_1 l0_1.length c0_1] 30 (0,0)) (by (with_reducible repeat (refine blk_alloc ?_ _));exact BK318.out) hb);have n7_:=Aside0.mk (blk_below (g:=gb333) (o:=.cells #[.slice Ao24 t326.length co24,.slice Ao27 t329.length co27] 34 (0,0)) (by (with_reducible repeat (refine blk_alloc ?_ _));exact BK333.out) hb);have n8_:=Aside0.mk (below_step (by repeat (first|(with_reducible first|exact HB.out|apply below_alloc|refine below_set ?_ GE318.out|refine below_set ?_ GE333.out)|exact HB.out)) hb);have n9_:=Aside0.mk (hbox);have n10_:=Aside0.mk ((by rw [hg];exact (below_size (by repeat (first|(with_reducible first|exact HB.out|apply below_alloc|refine below_set ?_ GE318.out|refine below_set ?_ GE333.out)|exact HB.out))):w.heap.size ≤ gb340));have n11_:=Aside0.mk ((by rw [hg];exact (below_size (by repeat (first|(with_reducible first|exact HB.out|apply below_alloc|refine below_set ?_ GE318.out|refine below_set ?_ GE333.out)|exact HB.out))):w.heap.size ≤ gb340));have n12_:=Aside0.mk ((by rw [hg];exact Nat.ne_of_lt (blk_lt (g:=gb318) (o:=.cells #[.slice A0_0 l0_0.length c0_0,.slice A0_1 l0_1.length c0_1] 30 (0,0)) (by (with_reducible repeat (refine blk_alloc ?_ _));exact BK318.out)):gb318 ≠ gb340));have n13_:=Aside0.mk ((by rw [hg];exact Nat.ne_of_gt (blk_lt (g:=gb318) (o:=.cells #[.slice A0_0 l0_0.length c0_0,.slice A0_1 l0_1.length c0_1] 30 (0,0)) (by (with_reducible repeat (refine blk_alloc ?_ _));exact BK318.out)):gb340 ≠ gb318));have n14_:=Aside0.mk ((by rw [hg];exact Nat.ne_of_lt (blk_lt (g:=gb333) (o:=.cells #[.slice Ao24 t326.length co24,.slice Ao27 t329.length co27] 34 (0,0)) (by (with_reducible repeat (refine blk_alloc ?_ _));exact BK333.out)):gb333 ≠ gb340));have n15_:=Aside0.mk ((by rw [hg];exact Nat.ne_of_gt (blk_lt (g:=gb333) (o:=.cells #[.slice Ao24 t326.length co24,.slice Ao27 t329.length co27] 34 (0,0)) (by (with_reducible repeat (refine blk_alloc ?_ _));exact BK333.out)):gb340 ≠ gb333));clear HO322;clear HO325;clear HO328;clear HO331;clear HO336;clear HO339;clear BK318;clear BK333;clear HB;have HO322:=n0_;have HO325:=n1_;have HO328:=n2_;have HO331:=n3_;have HO336:=n4_;have HO339:=n5_;have BK318:=n6_;have BK333:=n7_;have HB:=n8_;have BK340:=n9_;have GW340:=n10_;have GE340:=n11_;have NB318_340:=n12_;have NB340_318:=n13_;have NB333_340:=n14_;have NB340_333:=n15_;clear n0_ n1_ n2_ n3_ n4_ n5_ n6_ n7_ n8_ n9_ n10_ n11_ n12_ n13_ n14_ n15_;clear hb hbox hg;obtain ⟨Ao31,co31,eo31⟩:=Kd.R_slice HO336.out;subst eo31;have hnb32:=NB340_318.out;have hnc32:=NB318_340.out;have hnb33:=NB340_333.out;have hnc33:=NB333_340.out;have hcz34_0:w30.cell? ⟨gb340,0,none⟩ = some (.slice none 0 0):=(blk_cell BK340.out 0).trans rfl;have hcz34_1:w30.cell? ⟨gb340,1,none⟩ = some (.slice none 0 0):=(blk_cell BK340.out 1).trans rfl;have hfz34_0:=blk_frozen BK340.out 0;have hfz34_1:=blk_frozen BK340.out 1;obtain ⟨Ao35,co35,eo35⟩:=Kd.R_slice HO339.out;subst eo35)|((with_reducible refine gate_callee (f:=26) rfl ?_);refine goesL_ (some 36) rfl rfl Try.func26 (by kernel_rfl) rfl #[.agg #[.slice Ao31 t334.length co31,.slice Ao35 t337.length co35],.string a1] rfl (by (try simp only [List.map_toArray,List.map_cons,List.map_nil]);first|done|rfl|(simp only [List.length_drop,List.length_take];rfl)) ?_;(with_reducible refine (impl_PutText.calls k _ _ t334 _ _ t337 a1 t341 t344 t347 _ ?side1 ?side2 ?side3 ?side4 A13.out).mono ?_);(case side1=>refine (Kd.R_reads' (e:=9) (base:=w.heap.size) (ok:=fun k_=>((((some k_ ≠ (.slice Ao35 t337.length co35:Value).ownBlock ∧ some k_ ≠ (.slice Ao20 t320.length co20:Value).ownBlock) ∧ some k_ ≠ (.slice Ao21 t323.length co21:Value).ownBlock) ∧ some k_ ≠ (.slice Ao24 t326.length co24:Value).ownBlock) ∧ some k_ ≠ (.slice Ao27 t329.length co27:Value).ownBlock)) (n:=t334.length) (c:=co31) ?_).2.2;exact (by (with_reducible repeat (first|apply Kd.R_alloc));exact (Kd.R_mono (Kd.R_far (p:=⟨gb340,1,none⟩) (Kd.R_far (p:=⟨gb340,0,none⟩) (Kd.R_types HO336.out BK340.out (by decide)) (fun _ hk=>hk.2) (.slice Ao31 t334.length co31)) (fun _ hk=>hk.2) (.slice Ao35 t337.length co35)) (fun _ h_=>h_.1))));(case side2=>exact (Kd.R_reads' HO336.out).2.1);(case side3=>refine (Kd.R_reads' (e:=9) (base:=w.heap.size) (ok:=fun k_=>((((some k_ ≠ (.slice Ao31 t334.length co31:Value).ownBlock ∧ some k_ ≠ (.slice Ao20 t320.length co20:Value).ownBlock) ∧ some k_ ≠ (.slice Ao21 t323.length co21:Value).ownBlock) ∧ some k_ ≠ (.slice Ao24 t326.length co24:Value).ownBlock) ∧ some k_ ≠ (.slice Ao27 t329.length co27:Value).ownBlock)) (n:=t337.length) (c:=co35) ?_).2.2;exact (by (with_reducible repeat (first|apply Kd.R_alloc));exact (Kd.R_mono (Kd.R_far (p:=⟨gb340,1,none⟩) (Kd.R_far (p:=⟨gb340,0,none⟩) (Kd.R_types HO339.out BK340.out (by decide)) (fun _ hk=>hk.2) (.slice Ao31 t334.length co31)) (fun _ hk=>hk.2) (.slice Ao35 t337.length co35)) (fun _ h_=>h_.1))));(case side4=>exact (Kd.R_reads' HO339.out).2.1);rintro e w36 ⟨v342,v345,rfl,ho0,ho1,hb⟩;refine ⟨_,rfl,?_⟩;have n0_:=Aside0.mk (Kd.R_mono (Kd.R_told (Kd.R_told (Kd.R_old (by (with_reducible repeat (first|apply Kd.R_alloc));exact (Kd.R_mono (Kd.R_far (p:=⟨gb340,1,none⟩) (Kd.R_far (p:=⟨gb340,0,none⟩) (Kd.R_types HO322.out BK340.out (by decide)) (fun _ hk=>hk.2) (.slice Ao31 t334.length co31)) (fun _ hk=>hk.2) (.slice Ao35 t337.length co35)) (fun _ h_=>h_.1))) hb) (Kd.R_base ho0)) (Kd.R_base ho1)) (fun _ h_=>h_.1));have n1_:=Aside0.mk (Kd.R_mono (Kd.R_told (Kd.R_told (Kd.R_old (by (with_reducible repeat (first|apply Kd.R_alloc));exact (Kd.R_mono (Kd.R_far (p:=⟨gb340,1,none⟩) (Kd.R_far (p:=⟨gb340,0,none⟩) (Kd.R_types HO325.out BK340.out (by decide)) (fun _ hk=>hk.2) (.slice Ao31 t334.length co31)) (fun _ hk=>hk.2) (.slice Ao35 t337.length co35)) (fun _ h_=>h_.1))) hb) (Kd.R_base ho0)) (Kd.R_base ho1)) (fun _ h_=>h_.1));have n2_:=Aside0.mk (Kd.R_mono (Kd.R_told (Kd.R_told (Kd.R_old (by (with_reducible repeat (first|apply Kd.R_alloc));exact (Kd.R_mono (Kd.R_far (p:=⟨gb340,1,none⟩) (Kd.R_far (p:=⟨gb340,0,none⟩) (Kd.R_types HO328.out BK340.out (by decide)) (fun _ hk=>hk.2) (.slice Ao31 t334.length co31)) (fun _ hk=>hk.2) (.slice Ao35 t337.length co35)) (fun _ h_=>h_.1))) hb) (Kd.R_base ho0)) (Kd.R_base ho1)) (fun _ h_=>h_.1));have n3_:=Aside0.mk (Kd.R_mono (Kd.R_told (Kd.R_told (Kd.R_old (by (with_reducible repeat (first|apply Kd.R_alloc));exact (Kd.R_mono (Kd.R_far (p:=⟨gb340,1,none⟩) (Kd.R_far (p:=⟨gb340,0,none⟩) (Kd.R_types HO331.out BK340.out (by decide)) (fun _ hk=>hk.2) (.slice Ao31 t334.length co31)) (fun _ hk=>hk.2) (.slice Ao35 t337.length co35)) (fun _ h_=>h_.1))) hb) (Kd.R_base ho0)) (Kd.R_base ho1)) (fun _ h_=>h_.1));have n4_:=Aside0.mk (Kd.R_mono (Kd.R_told (Kd.R_told (Kd.R_old (by (with_reducible repeat (first|apply Kd.R_alloc));exact (Kd.R_mono (Kd.R_far (p:=⟨gb340,1,none⟩) (Kd.R_far (p:=⟨gb340,0,none⟩) (Kd.R_types HO336.out BK340.out (by decide)) (fun _ hk=>hk.2) (.slice Ao31 t334.length co31)) (fun _ hk=>hk.2) (.slice Ao35 t337.length co35)) (fun _ h_=>h_.1))) hb) (Kd.R_base ho0)) (Kd.R_base ho1)) (fun _ h_=>h_.1));have n5_:=Aside0.mk (Kd.R_mono (Kd.R_told (Kd.R_told (Kd.R_old (by (with_reducible repeat (first|apply Kd.R_alloc));exact (Kd.R_mono (Kd.R_far (p:=⟨gb340,1,none⟩) (Kd.R_far (p:=⟨gb340,0,none⟩) (Kd.R_types HO339.out BK340.out (by decide)) (fun _ hk=>hk.2) (.slice Ao31 t334.length co31)) (fun _ hk=>hk.2) (.slice Ao35 t337.length co35)) (fun _ h_=>h_.1))) hb) (Kd.R_base ho0)) (Kd.R_base ho1)) (fun _ h_=>h_.1));have n6_:=Aside0.mk (Kd.R_lower (Kd.R_new' (Kd.R_new' (Kd.R_new' (Kd.R_new' (Kd.R_new' (Kd.R_new' ho0 (Kd.R_lt (by (with_reducible repeat (first|apply Kd.R_alloc));exact (Kd.R_mono (Kd.R_far (p:=⟨gb340,1,none⟩) (Kd.R_far (p:=⟨gb340,0,none⟩) (Kd.R_types HO322.out BK340.out (by decide)) (fun _ hk=>hk.2) (.slice Ao31 t334.length co31)) (fun _ hk=>hk.2) (.slice Ao35 t337.length co35)) (fun _ h_=>h_.1))))) (Kd.R_lt (by (with_reducible repeat (first|apply Kd.R_alloc));exact (Kd.R_mono (Kd.R_far (p:=⟨gb340,1,none⟩) (Kd.R_far (p:=⟨gb340,0,none⟩) (Kd.R_types HO325.out BK340.out (by decide)) (fun _ hk=>hk.2) (.slice Ao31 t334.length co31)) (fun _ hk=>hk.2) (.slice Ao35 t337.length co35)) (fun _ h_=>h_.1))))) (Kd.R_lt (by (with_reducible repeat (first|apply Kd.R_alloc));exact (Kd.R_mono (Kd.R_far (p:=⟨gb340,1,none⟩) (Kd.R_far (p:=⟨gb340,0,none⟩) (Kd.R_types HO328.out BK340.out (by decide)) (fun _ hk=>hk.2) (.slice Ao31 t334.length co31)) (fun _ hk=>hk.2) (.slice Ao35 t337.length co35)) (fun _ h_=>h_.1))))) (Kd.R_lt (by (with_reducible repeat (first|apply Kd.R_alloc));exact (Kd.R_mono (Kd.R_far (p:=⟨gb340,1,none⟩) (Kd.R_far (p:=⟨gb340,0,none⟩) (Kd.R_types HO331.out BK340.out (by decide)) (fun _ hk=>hk.2) (.slice Ao31 t334.length co31)) (fun _ hk=>hk.2) (.slice Ao35 t337.length co35)) (fun _ h_=>h_.1))))) (Kd.R_lt (by (with_reducible repeat (first|apply Kd.R_alloc));exact (Kd.R_mono (Kd.R_far (p:=⟨gb340,1,none⟩) (Kd.R_far (p:=⟨gb340,0,none⟩) (Kd.R_types HO336.out BK340.out (by decide)) (fun _ hk=>hk.2) (.slice Ao31 t334.length co31)) (fun _ hk=>hk.2) (.slice Ao35 t337.length co35)) (fun _ h_=>h_.1))))) (Kd.R_lt (by (with_reducible repeat (first|apply Kd.R_alloc));exact (Kd.R_mono (Kd.R_far (p:=⟨gb340,1,none⟩) (Kd.R_far (p:=⟨gb340,0,none⟩) (Kd.R_types HO339.out BK340.out (by decide)) (fun _ hk=>hk.2) (.slice Ao31 t334.length co31)) (fun _ hk=>hk.2) (.slice Ao35 t337.length co35)) (fun _ h_=>h_.1))))) (below_size (by repeat (first|(with_reducible first|exact HB.out|apply below_alloc|refine below_set ?_ GE318.out|refine below_set ?_ GE333.out|refine below_set ?_ GE340.out)|exact HB.out))));have n7_:=Aside0.mk (Kd.R_lower (Kd.R_new' (Kd.R_new' (Kd.R_new' (Kd.R_new' (Kd.R_new' (Kd.R_new' ho1 (Kd.R_lt (by (with_reducible repeat (first|apply Kd.R_alloc));exact (Kd.R_mono (Kd.R_far (p:=⟨gb340,1,none⟩) (Kd.R_far (p:=⟨gb340,0,none⟩) (Kd.R_types HO322.out BK340.out (by decide)) (fun _ hk=>hk.2) (.slice Ao31 t334.length co31)) (fun _ hk=>hk.2) (.slice Ao35 t337.length co35)) (fun _ h_=>h_.1))))) (Kd.R_lt (by (with_reducible repeat (first|apply Kd.R_alloc));exact (Kd.R_mono (Kd.R_far (p:=⟨gb340,1,none⟩) (Kd.R_far (p:=⟨gb340,0,none⟩) (Kd.R_types HO325.out BK340.out (by decide)) (fun _ hk=>hk.2) (.slice Ao31 t334.length co31)) (fun _ hk=>hk.2) (.slice Ao35 t337.length co35)) (fun _ h_=>h_.1))))) (Kd.R_lt (by (with_reducible repeat (first|apply Kd.R_alloc));exact (Kd.R_mono (Kd.R_far (p:=⟨gb340,1,none⟩) (Kd.R_far (p:=⟨gb340,0,none⟩) (Kd.R_types HO328.out BK340.out (by decide)) (fun _ hk=>hk.2) (.slice Ao31 t334.length co31)) (fun _ hk=>hk.2) (.slice Ao35 t337.length co35)) (fun _ h_=>h_.1))))) (Kd.R_lt (by (with_reducible repeat (first|apply Kd.R_alloc));exact (Kd.R_mono (Kd.R_far (p:=⟨gb340,1,none⟩) (Kd.R_far (p:=⟨gb340,0,none⟩) (Kd.R_types HO331.out BK340.out (by decide)) (fun _ hk=>hk.2) (.slice Ao31 t334.length co31)) (fun _ hk=>hk.2) (.slice Ao35 t337.length co35)) (fun _ h_=>h_.1))))) (Kd.R_lt (by (with_reducible repeat (first|apply Kd.R_alloc));exact (Kd.R_mono (Kd.R_far (p:=⟨gb340,1,none⟩) (Kd.R_far (p:=⟨gb340,0,none⟩) (Kd.R_types HO336.out BK340.out (by decide)) (fun _ hk=>hk.2) (.slice Ao31 t334.length co31)) (fun _ hk=>hk.2) (.slice Ao35 t337.length co35)) (fun _ h_=>h_.1))))) (Kd.R_lt (by (with_reducible repeat (first|apply Kd.R_alloc));exact (Kd.R_mono (Kd.R_far (p:=⟨gb340,1,none⟩) (Kd.R_far (p:=⟨gb340,0,none⟩) (Kd.R_types HO339.out BK340.out (by decide)) (fun _ hk=>hk.2) (.slice Ao31 t334.length co31)) (fun _ hk=>hk.2) (.slice Ao35 t337.length co35)) (fun _ h_=>h_.1))))) (below_size (by repeat (first|(with_reducible first|exact HB.out|apply below_alloc|refine below_set ?_ GE318.out|refine below_set ?_ GE333.out|refine below_set ?_ GE340.out)|exact HB.out))));have n8_:=Aside0.mk (blk_below (g:=gb318) (o:=.cells #[.slice A0_0 l0_0.length c0_0,.slice A0_1 l0_1.length c0_1] 30 (0,0)) (by (with_reducible repeat (refine blk_alloc ?_ _));refine blk_far ?_ NB318_340.out _;(with_reducible repeat (refine blk_alloc ?_ _));refine blk_far ?_ NB318_340.out _;(with_reducible repeat (refine blk_alloc ?_ _));exact BK318.out) hb);have n9_:=Aside0.mk (blk_below (g:=gb333) (o:=.cells #[.slice Ao24 t326.length co24,.slice Ao27 t329.length co27] 34 (0,0)) (by (with_reducible repeat (refine blk_alloc ?_ _));refine blk_far ?_ NB333_340.out _;(with_reducible repeat (refine blk_alloc ?_ _));refine blk_far ?_ NB333_340.out _;(with_reducible repeat (refine blk_alloc ?_ _));exact BK333.out) hb);have n10_:=Aside0.mk (blk_below (g:=gb340) (o:=.cells #[.slice Ao31 t334.length co31,.slice Ao35 t337.length co35] 34 (0,0)) (by (with_reducible repeat (refine blk_alloc ?_ _));refine blk_put (cs:=#[.slice Ao31 t334.length co31,.slice none 0 0]) ?_ 1 _ rfl;(with_reducible repeat (refine blk_alloc ?_ _));refine blk_put (cs:=#[.slice none 0 0,.slice none 0 0]) ?_ 0 _ rfl;(with_reducible repeat (refine blk_alloc ?_ _));exact BK340.out) hb);have n11_:=Aside0.mk (below_step (by repeat (first|(with_reducible first|exact HB.out|apply below_alloc|refine below_set ?_ GE318.out|refine below_set ?_ GE333.out|refine below_set ?_ GE340.out)|exact HB.out)) hb);clear HO322;clear HO325;clear HO328;clear HO331;clear HO336;clear HO339;clear BK318;clear BK333;clear BK340;clear HB;have HO322:=n0_;have HO325:=n1_;have HO328:=n2_;have HO331:=n3_;have HO336:=n4_;have HO339:=n5_;have HO343:=n6_;have HO346:=n7_;have BK318:=n8_;have BK333:=n9_;have BK340:=n10_;have HB:=n11_;clear n0_ n1_ n2_ n3_ n4_ n5_ n6_ n7_ n8_ n9_ n10_ n11_;(try clear hb);(try clear hb2);(try clear hk);(try clear hi);(try clear ho0);(try clear ho1))|((with_reducible refine gate_dst (N:=9) rfl ?_);refine box_event ?hg (N:=9) ?hd (cs:=#[.slice none 0 0,.slice none 0 0]) (t:=34) ?hr ?_;(case hd=>rfl);(case hg=>rfl);(case hr=>first|(go_simp;done)|(go_simp;rfl));intro gb348 hg w37 hbox hb;have n0_:=Aside0.mk (Kd.R_below (by (with_reducible repeat (first|apply Kd.R_alloc));exact HO322.out) hb);have n1_:=Aside0.mk (Kd.R_below (by (with_reducible repeat (first|apply Kd.R_alloc));exact HO325.out) hb);have n2_:=Aside0.mk (Kd.R_below (by (with_reducible repeat (first|apply Kd.R_alloc));exact HO328.out) hb);have n3_:=Aside0.mk (Kd.R_below (by (with_reducible repeat (first|apply Kd.R_alloc));exact HO331.out) hb);have n4_:=Aside0.mk (Kd.R_below (by (with_reducible repeat (first|apply Kd.R_alloc));exact HO336.out) hb);have n5_:=Aside0.mk (Kd.R_below (by (with_reducible repeat (first|apply Kd.R_alloc));exact HO339.out) hb);have n6_:=Aside0.mk (Kd.R_below (by (with_reducible repeat (first|apply Kd.R_alloc));exact HO343.out) hb);have n7_:=Aside0.mk (Kd.R_below (by (with_reducible repeat (first|apply Kd.R_alloc));exact HO346.out) hb);have n8_:=Aside0.mk (blk_below (g:=gb318) (o:=.cells #[.slice A0_0 l0_0.length c0_0,.slice A0_1 l0_1.length c0_1] 30 (0,0)) (by (with_reducible repeat (refine blk_alloc ?_ _));exact BK318.out) hb);have n9_:=Aside0.mk (blk_below (g:=gb333) (o:=.cells #[.slice Ao24 t326.length co24,.slice Ao27 t329.length co27] 34 (0,0)) (by (with_reducible repeat (refine blk_alloc ?_ _));exact BK333.out) hb);have n10_:=Aside0.mk (blk_below (g:=gb340) (o:=.cells #[.slice Ao31 t334.length co31,.slice Ao35 t337.length co35] 34 (0,0)) (by (with_reducible repeat (refine blk_alloc ?_ _));exact BK340.out) hb);have n11_:=Aside0.mk (below_step (by repeat (first|(with_reducible first|exact HB.out|apply below_alloc|refine below_set ?_ GE318.out|refine below_set ?_ GE333.out|refine below_set ?_ GE340.out)|exact HB.out)) hb);have n12_:=Aside0.mk (hbox);have n13_:=Aside0.mk ((by rw [hg];exact (below_size (by repeat (first|(with_reducible first|exact HB.out|apply below_alloc|refine below_set ?_ GE318.out|refine below_set ?_ GE333.out|refine below_set ?_ GE340.out)|exact HB.out))):w.heap.size ≤ gb348));have n14_:=Aside0.mk ((by rw [hg];exact (below_size (by repeat (first|(with_reducible first|exact HB.out|apply below_alloc|refine below_set ?_ GE318.out|refine below_set ?_ GE333.out|refine below_set ?_ GE340.out)|exact HB.out))):w.heap.size ≤ gb348));have n15_:=Aside0.mk ((by rw [hg];exact Nat.ne_of_lt (blk_lt (g:=gb318) (o:=.cells #[.slice A0_0 l0_0.length c0_0,.slice A0_1 l0_1.length c0_1] 30 (0,0)) (by (with_reducible repeat (refine blk_alloc ?_ _));exact BK318.out)):gb318 ≠ gb348));have n16_:=Aside0.mk ((by rw [hg];exact Nat.ne_of_gt (blk_lt (g:=gb318) (o:=.cells #[.slice A0_0 l0_0.length c0_0,.slice A0_1 l0_1.length c0_1] 30 (0,0)) (by (with_reducible repeat (refine blk_alloc ?_ _));exact BK318.out)):gb348 ≠ gb318));have n17_:=Aside0.mk ((by rw [hg];exact Nat.ne_of_lt (blk_lt (g:=gb333) (o:=.cells #[.slice Ao24 t326.length co24,.slice Ao27 t329.length co27] 34 (0,0)) (by (with_reducible repeat (refine blk_alloc ?_ _));exact BK333.out)):gb333 ≠ gb348));have n18_:=Aside0.mk ((by rw [hg];exact Nat.ne_of_gt (blk_lt (g:=gb333) (o:=.cells #[.slice Ao24 t326.length co24,.slice Ao27 t329.length co27] 34 (0,0)) (by (with_reducible repeat (refine blk_alloc ?_ _));exact BK333.out)):gb348 ≠ gb333));have n19_:=Aside0.mk ((by rw [hg];exact Nat.ne_of_lt (blk_lt (g:=gb340) (o:=.cells #[.slice Ao31 t334.length co31,.slice Ao35 t337.length co35] 34 (0,0)) (by (with_reducible repeat (refine blk_alloc ?_ _));exact BK340.out)):gb340 ≠ gb348));have n20_:=Aside0.mk ((by rw [hg];exact Nat.ne_of_gt (blk_lt (g:=gb340) (o:=.cells #[.slice Ao31 t334.length co31,.slice Ao35 t337.length co35] 34 (0,0)) (by (with_reducible repeat (refine blk_alloc ?_ _));exact BK340.out)):gb348 ≠ gb340));clear HO322;clear HO325;clear HO328;clear HO331;clear HO336;clear HO339;clear HO343;clear HO346;clear BK318;clear BK333;clear BK340;clear HB;have HO322:=n0_;have HO325:=n1_;have HO328:=n2_;have HO331:=n3_;have HO336:=n4_;have HO339:=n5_;have HO343:=n6_;have HO346:=n7_;have BK318:=n8_;have BK333:=n9_;have BK340:=n10_;have HB:=n11_;have BK348:=n12_;have GW348:=n13_;have GE348:=n14_;have NB318_348:=n15_;have NB348_318:=n16_;have NB333_348:=n17_;have NB348_333:=n18_;have NB340_348:=n19_;have NB348_340:=n20_;clear n0_ n1_ n2_ n3_ n4_ n5_ n6_ n7_ n8_ n9_ n10_ n11_ n12_ n13_ n14_ n15_ n16_ n17_ n18_ n19_ n20_;clear hb hbox hg;obtain ⟨Ao38,co38,eo38⟩:=Kd.R_slice HO343.out;subst eo38;have hnb39:=NB348_318.out;have hnc39:=NB318_348.out;have hnb40:=NB348_333.out;have hnc40:=NB333_348.out;have hnb41:=NB348_340.out;have hnc41:=NB340_348.out;have hcz42_0:w37.cell? ⟨gb348,0,none⟩ = some (.slice none 0 0):=(blk_cell BK348.out 0).trans rfl;have hcz42_1:w37.cell? ⟨gb348,1,none⟩ = some (.slice none 0 0):=(blk_cell BK348.out 1).trans rfl;have hfz42_0:=blk_frozen BK348.out 0;have hfz42_1:=blk_frozen BK348.out 1;obtain ⟨Ao43,co43,eo43⟩:=Kd.R_slice HO346.out;subst eo43))
   (try simp only [Act.put,List.setIfInBounds_toArray,List.set_cons_zero,List.set_cons_succ])
   go_cut [47] (fun v47 wc=>∃ (kq:Nat) (x47_13:Bool),v47 = .bool x47_13 ∧ Aside0 (laws_FnExactPutText.j0 kq a1 t332 t347 x47_13 l0_0 l0_1 t326 t329 t334 t337 t341 t344 = some r) ∧ Aside0 (kq ≤ k) ∧ Aside0 (Kd.R Kd.string 9 wc w.heap.size (fun k_=>some k_ ≠ ((.slice Ao27 t329.length co27):Value).ownBlock ∧ some k_ ≠ ((.slice Ao31 t334.length co31):Value).ownBlock ∧ some k_ ≠ ((.slice Ao35 t337.length co35):Value).ownBlock ∧ some k_ ≠ ((.slice Ao38 t341.length co38):Value).ownBlock ∧ some k_ ≠ ((.slice Ao43 t344.length co43):Value).ownBlock) (.slice Ao24 t326.length co24) t326) ∧ Aside0 (Kd.R Kd.string 9 wc w.heap.size (fun k_=>some k_ ≠ ((.slice Ao24 t326.length co24):Value).ownBlock ∧ some k_ ≠ ((.slice Ao31 t334.length co31):Value).ownBlock ∧ some k_ ≠ ((.slice Ao35 t337.length co35):Value).ownBlock ∧ some k_ ≠ ((.slice Ao38 t341.length co38):Value).ownBlock ∧ some k_ ≠ ((.slice Ao43 t344.length co43):Value).ownBlock) (.slice Ao27 t329.length co27) t329) ∧ Aside0 (Kd.R Kd.string 9 wc w.heap.size (fun k_=>some k_ ≠ ((.slice Ao24 t326.length co24):Value).ownBlock ∧ some k_ ≠ ((.slice Ao27 t329.length co27):Value).ownBlock ∧ some k_ ≠ ((.slice Ao35 t337.length co35):Value).ownBlock ∧ some k_ ≠ ((.slice Ao38 t341.length co38):Value).ownBlock ∧ some k_ ≠ ((.slice Ao43 t344.length co43):Value).ownBlock) (.slice Ao31 t334.length co31) t334) ∧ Aside0 (Kd.R Kd.string 9 wc w.heap.size (fun k_=>some k_ ≠ ((.slice Ao24 t326.length co24):Value).ownBlock ∧ some k_ ≠ ((.slice Ao27 t329.length co27):Value).ownBlock ∧ some k_ ≠ ((.slice Ao31 t334.length co31):Value).ownBlock ∧ some k_ ≠ ((.slice Ao38 t341.length co38):Value).ownBlock ∧ some k_ ≠ ((.slice Ao43 t344.length co43):Value).ownBlock) (.slice Ao35 t337.length co35) t337) ∧ Aside0 (Kd.R Kd.string 9 wc w.heap.size (fun k_=>some k_ ≠ ((.slice Ao24 t326.length co24):Value).ownBlock ∧ some k_ ≠ ((.slice Ao27 t329.length co27):Value).ownBlock ∧ some k_ ≠ ((.slice Ao31 t334.length co31):Value).ownBlock ∧ some k_ ≠ ((.slice Ao35 t337.length co35):Value).ownBlock ∧ some k_ ≠ ((.slice Ao43 t344.length co43):Value).ownBlock) (.slice Ao38 t341.length co38) t341) ∧ Aside0 (Kd.R Kd.string 9 wc w.heap.size (fun k_=>some k_ ≠ ((.slice Ao24 t326.length co24):Value).ownBlock ∧ some k_ ≠ ((.slice Ao27 t329.length co27):Value).ownBlock ∧ some k_ ≠ ((.slice Ao31 t334.length co31):Value).ownBlock ∧ some k_ ≠ ((.slice Ao35 t337.length co35):Value).ownBlock ∧ some k_ ≠ ((.slice Ao38 t341.length co38):Value).ownBlock) (.slice Ao43 t344.length co43) t344) ∧ Aside0 (wc.heap[gb318]? = some (.cells #[(.slice A0_0 l0_0.length c0_0),(.slice A0_1 l0_1.length c0_1)] 30 (0,0))) ∧ Aside0 (wc.heap[gb333]? = some (.cells #[(.slice Ao24 t326.length co24),(.slice Ao27 t329.length co27)] 34 (0,0))) ∧ Aside0 (wc.heap[gb340]? = some (.cells #[(.slice Ao31 t334.length co31),(.slice Ao35 t337.length co35)] 34 (0,0))) ∧ Aside0 (wc.heap[gb348]? = some (.cells #[(.slice Ao38 t341.length co38),(.slice Ao43 t344.length co43)] 34 (0,0))) ∧ Aside0 (Below w.heap.size w wc))
   case first =>
    have H:=HC14.out
    clear HC14
    replace H:=Option.bind_eq_some_iff.mp H
    obtain ⟨t349,A440,H⟩:=H
    replace H:(if t349 = true then (laws_FnExactPutText.j0 k a1 t332 t347 (t347 != t332) l0_0 l0_1 t326 t329 t334 t337 t341 t344) else (laws_FnExactPutText.j0 k a1 t332 t347 true l0_0 l0_1 t326 t329 t334 t337 t341 t344)) = some r:=H
    have A44:=Aside0.mk A440
    clear A440
    by_cases c45:t349 = true
    ·subst c45
     have H1:(laws_FnExactPutText.j0 k a1 t332 t347 (t347 != t332) l0_0 l0_1 t326 t329 t334 t337 t341 t344) = some r:=by rw [if_pos rfl] at H;exact H
     clear H
     have H:=H1
     clear H1
     have H':=Aside0.mk H
     clear H
     have hnb46:=NB348_318.out
     have hnc46:=NB318_348.out
     have hnb47:=NB348_333.out
     have hnc47:=NB333_348.out
     have hnb48:=NB348_340.out
     have hnc48:=NB340_348.out
     have hcz49_0:w37.cell? ⟨gb348,0,none⟩ = some (.slice none 0 0):=(blk_cell BK348.out 0).trans rfl
     have hcz49_1:w37.cell? ⟨gb348,1,none⟩ = some (.slice none 0 0):=(blk_cell BK348.out 1).trans rfl
     have hfz49_0:=blk_frozen BK348.out 0
     have hfz49_1:=blk_frozen BK348.out 1
     have hnb50:=NB333_318.out
     have hnc50:=NB318_333.out
     have hnb51:=NB333_340.out
     have hnc51:=NB340_333.out
     have hcz52_0:w37.cell? ⟨gb333,0,none⟩ = some (.slice Ao24 t326.length co24):=(blk_cell BK333.out 0).trans rfl
     have hcz52_1:w37.cell? ⟨gb333,1,none⟩ = some (.slice Ao27 t329.length co27):=(blk_cell BK333.out 1).trans rfl
     have hfz52_0:=blk_frozen BK333.out 0
     have hfz52_1:=blk_frozen BK333.out 1
     go_wp2_with (first|((with_reducible refine gate_callee (f:=18) rfl ?_);refine goesL_ (some 41) rfl rfl Try.func18 (by kernel_rfl) rfl #[.agg #[.slice Ao38 t341.length co38,.slice Ao43 t344.length co43],.agg #[.slice Ao24 t326.length co24,.slice Ao27 t329.length co27]] rfl (by (try simp only [List.map_toArray,List.map_cons,List.map_nil]);first|done|rfl|(simp only [List.length_drop,List.length_take];rfl)) ?_;(with_reducible refine (laws_eqDisk.calls k _ _ t341 _ _ t344 _ _ t326 _ _ t329 true _ ?side1 ?side2 ?side3 ?side4 ?side5 ?side6 ?side7 ?side8 A44.out).mono ?_);(case side1=>refine (Kd.R_reads' (e:=9) (base:=w.heap.size) (ok:=fun k_=>((((((some k_ ≠ (.slice Ao43 t344.length co43:Value).ownBlock ∧ some k_ ≠ (.slice Ao20 t320.length co20:Value).ownBlock) ∧ some k_ ≠ (.slice Ao21 t323.length co21:Value).ownBlock) ∧ some k_ ≠ (.slice Ao24 t326.length co24:Value).ownBlock) ∧ some k_ ≠ (.slice Ao27 t329.length co27:Value).ownBlock) ∧ some k_ ≠ (.slice Ao31 t334.length co31:Value).ownBlock) ∧ some k_ ≠ (.slice Ao35 t337.length co35:Value).ownBlock)) (n:=t341.length) (c:=co38) ?_).2.2;exact (by (with_reducible repeat (first|apply Kd.R_alloc));exact (Kd.R_mono (Kd.R_far (p:=⟨gb348,1,none⟩) (Kd.R_far (p:=⟨gb348,0,none⟩) (Kd.R_types HO343.out BK348.out (by decide)) (fun _ hk=>hk.2) (.slice Ao38 t341.length co38)) (fun _ hk=>hk.2) (.slice Ao43 t344.length co43)) (fun _ h_=>h_.1))));(case side2=>exact (Kd.R_reads' HO343.out).2.1);(case side3=>refine (Kd.R_reads' (e:=9) (base:=w.heap.size) (ok:=fun k_=>((((((some k_ ≠ (.slice Ao38 t341.length co38:Value).ownBlock ∧ some k_ ≠ (.slice Ao20 t320.length co20:Value).ownBlock) ∧ some k_ ≠ (.slice Ao21 t323.length co21:Value).ownBlock) ∧ some k_ ≠ (.slice Ao24 t326.length co24:Value).ownBlock) ∧ some k_ ≠ (.slice Ao27 t329.length co27:Value).ownBlock) ∧ some k_ ≠ (.slice Ao31 t334.length co31:Value).ownBlock) ∧ some k_ ≠ (.slice Ao35 t337.length co35:Value).ownBlock)) (n:=t344.length) (c:=co43) ?_).2.2;exact (by (with_reducible repeat (first|apply Kd.R_alloc));exact (Kd.R_mono (Kd.R_far (p:=⟨gb348,1,none⟩) (Kd.R_far (p:=⟨gb348,0,none⟩) (Kd.R_types HO346.out BK348.out (by decide)) (fun _ hk=>hk.2) (.slice Ao38 t341.length co38)) (fun _ hk=>hk.2) (.slice Ao43 t344.length co43)) (fun _ h_=>h_.1))));(case side4=>exact (Kd.R_reads' HO346.out).2.1);(case side5=>refine (Kd.R_reads' (e:=9) (base:=w.heap.size) (ok:=fun k_=>((((((some k_ ≠ (.slice Ao27 t329.length co27:Value).ownBlock ∧ some k_ ≠ (.slice Ao20 t320.length co20:Value).ownBlock) ∧ some k_ ≠ (.slice Ao21 t323.length co21:Value).ownBlock) ∧ some k_ ≠ (.slice Ao31 t334.length co31:Value).ownBlock) ∧ some k_ ≠ (.slice Ao35 t337.length co35:Value).ownBlock) ∧ some k_ ≠ (.slice Ao38 t341.length co38:Value).ownBlock) ∧ some k_ ≠ (.slice Ao43 t344.length co43:Value).ownBlock)) (n:=t326.length) (c:=co24) ?_).2.2;exact (by (with_reducible repeat (first|apply Kd.R_alloc));exact (Kd.R_mono (Kd.R_far (p:=⟨gb348,1,none⟩) (Kd.R_far (p:=⟨gb348,0,none⟩) (Kd.R_types HO328.out BK348.out (by decide)) (fun _ hk=>hk.2) (.slice Ao38 t341.length co38)) (fun _ hk=>hk.2) (.slice Ao43 t344.length co43)) (fun _ h_=>h_.1))));(case side6=>exact (Kd.R_reads' HO328.out).2.1);(case side7=>refine (Kd.R_reads' (e:=9) (base:=w.heap.size) (ok:=fun k_=>((((((some k_ ≠ (.slice Ao24 t326.length co24:Value).ownBlock ∧ some k_ ≠ (.slice Ao20 t320.length co20:Value).ownBlock) ∧ some k_ ≠ (.slice Ao21 t323.length co21:Value).ownBlock) ∧ some k_ ≠ (.slice Ao31 t334.length co31:Value).ownBlock) ∧ some k_ ≠ (.slice Ao35 t337.length co35:Value).ownBlock) ∧ some k_ ≠ (.slice Ao38 t341.length co38:Value).ownBlock) ∧ some k_ ≠ (.slice Ao43 t344.length co43:Value).ownBlock)) (n:=t329.length) (c:=co27) ?_).2.2;exact (by (with_reducible repeat (first|apply Kd.R_alloc));exact (Kd.R_mono (Kd.R_far (p:=⟨gb348,1,none⟩) (Kd.R_far (p:=⟨gb348,0,none⟩) (Kd.R_types HO331.out BK348.out (by decide)) (fun _ hk=>hk.2) (.slice Ao38 t341.length co38)) (fun _ hk=>hk.2) (.slice Ao43 t344.length co43)) (fun _ h_=>h_.1))));(case side8=>exact (Kd.R_reads' HO331.out).2.1);rintro e w53 ⟨rfl,hb⟩;refine ⟨_,rfl,?_⟩;have n0_:=Aside0.mk (Kd.R_below (by (with_reducible repeat (first|apply Kd.R_alloc));exact (Kd.R_mono (Kd.R_far (p:=⟨gb348,1,none⟩) (Kd.R_far (p:=⟨gb348,0,none⟩) (Kd.R_types HO322.out BK348.out (by decide)) (fun _ hk=>hk.2) (.slice Ao38 t341.length co38)) (fun _ hk=>hk.2) (.slice Ao43 t344.length co43)) (fun _ h_=>h_.1))) hb);have n1_:=Aside0.mk (Kd.R_below (by (with_reducible repeat (first|apply Kd.R_alloc));exact (Kd.R_mono (Kd.R_far (p:=⟨gb348,1,none⟩) (Kd.R_far (p:=⟨gb348,0,none⟩) (Kd.R_types HO325.out BK348.out (by decide)) (fun _ hk=>hk.2) (.slice Ao38 t341.length co38)) (fun _ hk=>hk.2) (.slice Ao43 t344.length co43)) (fun _ h_=>h_.1))) hb);have n2_:=Aside0.mk (Kd.R_below (by (with_reducible repeat (first|apply Kd.R_alloc));exact (Kd.R_mono (Kd.R_far (p:=⟨gb348,1,none⟩) (Kd.R_far (p:=⟨gb348,0,none⟩) (Kd.R_types HO328.out BK348.out (by decide)) (fun _ hk=>hk.2) (.slice Ao38 t341.length co38)) (fun _ hk=>hk.2) (.slice Ao43 t344.length co43)) (fun _ h_=>h_.1))) hb);have n3_:=Aside0.mk (Kd.R_below (by (with_reducible repeat (first|apply Kd.R_alloc));exact (Kd.R_mono (Kd.R_far (p:=⟨gb348,1,none⟩) (Kd.R_far (p:=⟨gb348,0,none⟩) (Kd.R_types HO331.out BK348.out (by decide)) (fun _ hk=>hk.2) (.slice Ao38 t341.length co38)) (fun _ hk=>hk.2) (.slice Ao43 t344.length co43)) (fun _ h_=>h_.1))) hb);have n4_:=Aside0.mk (Kd.R_below (by (with_reducible repeat (first|apply Kd.R_alloc));exact (Kd.R_mono (Kd.R_far (p:=⟨gb348,1,none⟩) (Kd.R_far (p:=⟨gb348,0,none⟩) (Kd.R_types HO336.out BK348.out (by decide)) (fun _ hk=>hk.2) (.slice Ao38 t341.length co38)) (fun _ hk=>hk.2) (.slice Ao43 t344.length co43)) (fun _ h_=>h_.1))) hb);have n5_:=Aside0.mk (Kd.R_below (by (with_reducible repeat (first|apply Kd.R_alloc));exact (Kd.R_mono (Kd.R_far (p:=⟨gb348,1,none⟩) (Kd.R_far (p:=⟨gb348,0,none⟩) (Kd.R_types HO339.out BK348.out (by decide)) (fun _ hk=>hk.2) (.slice Ao38 t341.length co38)) (fun _ hk=>hk.2) (.slice Ao43 t344.length co43)) (fun _ h_=>h_.1))) hb);have n6_:=Aside0.mk (Kd.R_below (by (with_reducible repeat (first|apply Kd.R_alloc));exact (Kd.R_mono (Kd.R_far (p:=⟨gb348,1,none⟩) (Kd.R_far (p:=⟨gb348,0,none⟩) (Kd.R_types HO343.out BK348.out (by decide)) (fun _ hk=>hk.2) (.slice Ao38 t341.length co38)) (fun _ hk=>hk.2) (.slice Ao43 t344.length co43)) (fun _ h_=>h_.1))) hb);have n7_:=Aside0.mk (Kd.R_below (by (with_reducible repeat (first|apply Kd.R_alloc));exact (Kd.R_mono (Kd.R_far (p:=⟨gb348,1,none⟩) (Kd.R_far (p:=⟨gb348,0,none⟩) (Kd.R_types HO346.out BK348.out (by decide)) (fun _ hk=>hk.2) (.slice Ao38 t341.length co38)) (fun _ hk=>hk.2) (.slice Ao43 t344.length co43)) (fun _ h_=>h_.1))) hb);have n8_:=Aside0.mk (blk_below (g:=gb318) (o:=.cells #[.slice A0_0 l0_0.length c0_0,.slice A0_1 l0_1.length c0_1] 30 (0,0)) (by (with_reducible repeat (refine blk_alloc ?_ _));refine blk_far ?_ NB318_348.out _;(with_reducible repeat (refine blk_alloc ?_ _));refine blk_far ?_ NB318_348.out _;(with_reducible repeat (refine blk_alloc ?_ _));exact BK318.out) hb);have n9_:=Aside0.mk (blk_below (g:=gb333) (o:=.cells #[.slice Ao24 t326.length co24,.slice Ao27 t329.length co27] 34 (0,0)) (by (with_reducible repeat (refine blk_alloc ?_ _));refine blk_far ?_ NB333_348.out _;(with_reducible repeat (refine blk_alloc ?_ _));refine blk_far ?_ NB333_348.out _;(with_reducible repeat (refine blk_alloc ?_ _));exact BK333.out) hb);have n10_:=Aside0.mk (blk_below (g:=gb340) (o:=.cells #[.slice Ao31 t334.length co31,.slice Ao35 t337.length co35] 34 (0,0)) (by (with_reducible repeat (refine blk_alloc ?_ _));refine blk_far ?_ NB340_348.out _;(with_reducible repeat (refine blk_alloc ?_ _));refine blk_far ?_ NB340_348.out _;(with_reducible repeat (refine blk_alloc ?_ _));exact BK340.out) hb);have n11_:=Aside0.mk (blk_below (g:=gb348) (o:=.cells #[.slice Ao38 t341.length co38,.slice Ao43 t344.length co43] 34 (0,0)) (by (with_reducible repeat (refine blk_alloc ?_ _));refine blk_put (cs:=#[.slice Ao38 t341.length co38,.slice none 0 0]) ?_ 1 _ rfl;(with_reducible repeat (refine blk_alloc ?_ _));refine blk_put (cs:=#[.slice none 0 0,.slice none 0 0]) ?_ 0 _ rfl;(with_reducible repeat (refine blk_alloc ?_ _));exact BK348.out) hb);have n12_:=Aside0.mk (below_step (by repeat (first|(with_reducible first|exact HB.out|apply below_alloc|refine below_set ?_ GE318.out|refine below_set ?_ GE333.out|refine below_set ?_ GE340.out|refine below_set ?_ GE348.out)|exact HB.out)) hb);clear HO322;clear HO325;clear HO328;clear HO331;clear HO336;clear HO339;clear HO343;clear HO346;clear BK318;clear BK333;clear BK340;clear BK348;clear HB;have HO322:=n0_;have HO325:=n1_;have HO328:=n2_;have HO331:=n3_;have HO336:=n4_;have HO339:=n5_;have HO343:=n6_;have HO346:=n7_;have BK318:=n8_;have BK333:=n9_;have BK340:=n10_;have BK348:=n11_;have HB:=n12_;clear n0_ n1_ n2_ n3_ n4_ n5_ n6_ n7_ n8_ n9_ n10_ n11_ n12_;(try clear hb);(try clear hb2);(try clear hk);(try clear hi)))
     go_meet
     case rel=>exact ⟨_,((t347 != t332)),(by first|rfl|(simp;done)|(simp [*];done)),H',⟨by first|omega|exact Nat.le_refl _⟩,⟨by (with_reducible repeat (first|apply Kd.R_alloc));exact Kd.R_mono HO328.out (fun _ hk=>⟨hk.1.1.1.1.1.1,⟨hk.1.1.1.2,⟨hk.1.1.2,⟨hk.1.2,hk.2⟩⟩⟩⟩)⟩,⟨by (with_reducible repeat (first|apply Kd.R_alloc));exact Kd.R_mono HO331.out (fun _ hk=>⟨hk.1.1.1.1.1.1,⟨hk.1.1.1.2,⟨hk.1.1.2,⟨hk.1.2,hk.2⟩⟩⟩⟩)⟩,⟨by (with_reducible repeat (first|apply Kd.R_alloc));exact Kd.R_mono HO336.out (fun _ hk=>⟨hk.1.1.1.2,⟨hk.1.1.2,⟨hk.1.1.1.1.1.1,⟨hk.1.2,hk.2⟩⟩⟩⟩)⟩,⟨by (with_reducible repeat (first|apply Kd.R_alloc));exact Kd.R_mono HO339.out (fun _ hk=>⟨hk.1.1.1.2,⟨hk.1.1.2,⟨hk.1.1.1.1.1.1,⟨hk.1.2,hk.2⟩⟩⟩⟩)⟩,⟨by (with_reducible repeat (first|apply Kd.R_alloc));exact Kd.R_mono HO343.out (fun _ hk=>⟨hk.1.1.1.2,⟨hk.1.1.2,⟨hk.1.2,⟨hk.2,hk.1.1.1.1.1.1⟩⟩⟩⟩)⟩,⟨by (with_reducible repeat (first|apply Kd.R_alloc));exact Kd.R_mono HO346.out (fun _ hk=>⟨hk.1.1.1.2,⟨hk.1.1.2,⟨hk.1.2,⟨hk.2,hk.1.1.1.1.1.1⟩⟩⟩⟩)⟩,⟨by (with_reducible repeat (refine blk_alloc ?_ _));exact BK318.out⟩,⟨by (with_reducible repeat (refine blk_alloc ?_ _));exact BK333.out⟩,⟨by (with_reducible repeat (refine blk_alloc ?_ _));exact BK340.out⟩,⟨by (with_reducible repeat (refine blk_alloc ?_ _));exact BK348.out⟩,⟨by repeat (first|(with_reducible first|exact HB.out|apply below_alloc|refine below_set ?_ GE318.out|refine below_set ?_ GE333.out|refine below_set ?_ GE340.out|refine below_set ?_ GE348.out)|exact HB.out)⟩⟩
    ·replace c45:=Bool.eq_false_iff.mpr c45
     subst c45
     have H1:(laws_FnExactPutText.j0 k a1 t332 t347 true l0_0 l0_1 t326 t329 t334 t337 t341 t344) = some r:=by rw [if_neg (show ¬ (false = true) by decide)] at H;exact H
     clear H
     have H:=H1
     clear H1
     have H':=Aside0.mk H
     clear H
     have hnb54:=NB348_318.out
     have hnc54:=NB318_348.out
     have hnb55:=NB348_333.out
     have hnc55:=NB333_348.out
     have hnb56:=NB348_340.out
     have hnc56:=NB340_348.out
     have hcz57_0:w37.cell? ⟨gb348,0,none⟩ = some (.slice none 0 0):=(blk_cell BK348.out 0).trans rfl
     have hcz57_1:w37.cell? ⟨gb348,1,none⟩ = some (.slice none 0 0):=(blk_cell BK348.out 1).trans rfl
     have hfz57_0:=blk_frozen BK348.out 0
     have hfz57_1:=blk_frozen BK348.out 1
     have hnb58:=NB333_318.out
     have hnc58:=NB318_333.out
     have hnb59:=NB333_340.out
     have hnc59:=NB340_333.out
     have hcz60_0:w37.cell? ⟨gb333,0,none⟩ = some (.slice Ao24 t326.length co24):=(blk_cell BK333.out 0).trans rfl
     have hcz60_1:w37.cell? ⟨gb333,1,none⟩ = some (.slice Ao27 t329.length co27):=(blk_cell BK333.out 1).trans rfl
     have hfz60_0:=blk_frozen BK333.out 0
     have hfz60_1:=blk_frozen BK333.out 1
     go_wp2_with (first|((with_reducible refine gate_callee (f:=18) rfl ?_);refine goesL_ (some 41) rfl rfl Try.func18 (by kernel_rfl) rfl #[.agg #[.slice Ao38 t341.length co38,.slice Ao43 t344.length co43],.agg #[.slice Ao24 t326.length co24,.slice Ao27 t329.length co27]] rfl (by (try simp only [List.map_toArray,List.map_cons,List.map_nil]);first|done|rfl|(simp only [List.length_drop,List.length_take];rfl)) ?_;(with_reducible refine (laws_eqDisk.calls k _ _ t341 _ _ t344 _ _ t326 _ _ t329 false _ ?side1 ?side2 ?side3 ?side4 ?side5 ?side6 ?side7 ?side8 A44.out).mono ?_);(case side1=>refine (Kd.R_reads' (e:=9) (base:=w.heap.size) (ok:=fun k_=>((((((some k_ ≠ (.slice Ao43 t344.length co43:Value).ownBlock ∧ some k_ ≠ (.slice Ao20 t320.length co20:Value).ownBlock) ∧ some k_ ≠ (.slice Ao21 t323.length co21:Value).ownBlock) ∧ some k_ ≠ (.slice Ao24 t326.length co24:Value).ownBlock) ∧ some k_ ≠ (.slice Ao27 t329.length co27:Value).ownBlock) ∧ some k_ ≠ (.slice Ao31 t334.length co31:Value).ownBlock) ∧ some k_ ≠ (.slice Ao35 t337.length co35:Value).ownBlock)) (n:=t341.length) (c:=co38) ?_).2.2;exact (by (with_reducible repeat (first|apply Kd.R_alloc));exact (Kd.R_mono (Kd.R_far (p:=⟨gb348,1,none⟩) (Kd.R_far (p:=⟨gb348,0,none⟩) (Kd.R_types HO343.out BK348.out (by decide)) (fun _ hk=>hk.2) (.slice Ao38 t341.length co38)) (fun _ hk=>hk.2) (.slice Ao43 t344.length co43)) (fun _ h_=>h_.1))));(case side2=>exact (Kd.R_reads' HO343.out).2.1);(case side3=>refine (Kd.R_reads' (e:=9) (base:=w.heap.size) (ok:=fun k_=>((((((some k_ ≠ (.slice Ao38 t341.length co38:Value).ownBlock ∧ some k_ ≠ (.slice Ao20 t320.length co20:Value).ownBlock) ∧ some k_ ≠ (.slice Ao21 t323.length co21:Value).ownBlock) ∧ some k_ ≠ (.slice Ao24 t326.length co24:Value).ownBlock) ∧ some k_ ≠ (.slice Ao27 t329.length co27:Value).ownBlock) ∧ some k_ ≠ (.slice Ao31 t334.length co31:Value).ownBlock) ∧ some k_ ≠ (.slice Ao35 t337.length co35:Value).ownBlock)) (n:=t344.length) (c:=co43) ?_).2.2;exact (by (with_reducible repeat (first|apply Kd.R_alloc));exact (Kd.R_mono (Kd.R_far (p:=⟨gb348,1,none⟩) (Kd.R_far (p:=⟨gb348,0,none⟩) (Kd.R_types HO346.out BK348.out (by decide)) (fun _ hk=>hk.2) (.slice Ao38 t341.length co38)) (fun _ hk=>hk.2) (.slice Ao43 t344.length co43)) (fun _ h_=>h_.1))));(case side4=>exact (Kd.R_reads' HO346.out).2.1);(case side5=>refine (Kd.R_reads' (e:=9) (base:=w.heap.size) (ok:=fun k_=>((((((some k_ ≠ (.slice Ao27 t329.length co27:Value).ownBlock ∧ some k_ ≠ (.slice Ao20 t320.length co20:Value).ownBlock) ∧ some k_ ≠ (.slice Ao21 t323.length co21:Value).ownBlock) ∧ some k_ ≠ (.slice Ao31 t334.length co31:Value).ownBlock) ∧ some k_ ≠ (.slice Ao35 t337.length co35:Value).ownBlock) ∧ some k_ ≠ (.slice Ao38 t341.length co38:Value).ownBlock) ∧ some k_ ≠ (.slice Ao43 t344.length co43:Value).ownBlock)) (n:=t326.length) (c:=co24) ?_).2.2;exact (by (with_reducible repeat (first|apply Kd.R_alloc));exact (Kd.R_mono (Kd.R_far (p:=⟨gb348,1,none⟩) (Kd.R_far (p:=⟨gb348,0,none⟩) (Kd.R_types HO328.out BK348.out (by decide)) (fun _ hk=>hk.2) (.slice Ao38 t341.length co38)) (fun _ hk=>hk.2) (.slice Ao43 t344.length co43)) (fun _ h_=>h_.1))));(case side6=>exact (Kd.R_reads' HO328.out).2.1);(case side7=>refine (Kd.R_reads' (e:=9) (base:=w.heap.size) (ok:=fun k_=>((((((some k_ ≠ (.slice Ao24 t326.length co24:Value).ownBlock ∧ some k_ ≠ (.slice Ao20 t320.length co20:Value).ownBlock) ∧ some k_ ≠ (.slice Ao21 t323.length co21:Value).ownBlock) ∧ some k_ ≠ (.slice Ao31 t334.length co31:Value).ownBlock) ∧ some k_ ≠ (.slice Ao35 t337.length co35:Value).ownBlock) ∧ some k_ ≠ (.slice Ao38 t341.length co38:Value).ownBlock) ∧ some k_ ≠ (.slice Ao43 t344.length co43:Value).ownBlock)) (n:=t329.length) (c:=co27) ?_).2.2;exact (by (with_reducible repeat (first|apply Kd.R_alloc));exact (Kd.R_mono (Kd.R_far (p:=⟨gb348,1,none⟩) (Kd.R_far (p:=⟨gb348,0,none⟩) (Kd.R_types HO331.out BK348.out (by decide)) (fun _ hk=>hk.2) (.slice Ao38 t341.length co38)) (fun _ hk=>hk.2) (.slice Ao43 t344.length co43)) (fun _ h_=>h_.1))));(case side8=>exact (Kd.R_reads' HO331.out).2.1);rintro e w61 ⟨rfl,hb⟩;refine ⟨_,rfl,?_⟩;have n0_:=Aside0.mk (Kd.R_below (by (with_reducible repeat (first|apply Kd.R_alloc));exact (Kd.R_mono (Kd.R_far (p:=⟨gb348,1,none⟩) (Kd.R_far (p:=⟨gb348,0,none⟩) (Kd.R_types HO322.out BK348.out (by decide)) (fun _ hk=>hk.2) (.slice Ao38 t341.length co38)) (fun _ hk=>hk.2) (.slice Ao43 t344.length co43)) (fun _ h_=>h_.1))) hb);have n1_:=Aside0.mk (Kd.R_below (by (with_reducible repeat (first|apply Kd.R_alloc));exact (Kd.R_mono (Kd.R_far (p:=⟨gb348,1,none⟩) (Kd.R_far (p:=⟨gb348,0,none⟩) (Kd.R_types HO325.out BK348.out (by decide)) (fun _ hk=>hk.2) (.slice Ao38 t341.length co38)) (fun _ hk=>hk.2) (.slice Ao43 t344.length co43)) (fun _ h_=>h_.1))) hb);have n2_:=Aside0.mk (Kd.R_below (by (with_reducible repeat (first|apply Kd.R_alloc));exact (Kd.R_mono (Kd.R_far (p:=⟨gb348,1,none⟩) (Kd.R_far (p:=⟨gb348,0,none⟩) (Kd.R_types HO328.out BK348.out (by decide)) (fun _ hk=>hk.2) (.slice Ao38 t341.length co38)) (fun _ hk=>hk.2) (.slice Ao43 t344.length co43)) (fun _ h_=>h_.1))) hb);have n3_:=Aside0.mk (Kd.R_below (by (with_reducible repeat (first|apply Kd.R_alloc));exact (Kd.R_mono (Kd.R_far (p:=⟨gb348,1,none⟩) (Kd.R_far (p:=⟨gb348,0,none⟩) (Kd.R_types HO331.out BK348.out (by decide)) (fun _ hk=>hk.2) (.slice Ao38 t341.length co38)) (fun _ hk=>hk.2) (.slice Ao43 t344.length co43)) (fun _ h_=>h_.1))) hb);have n4_:=Aside0.mk (Kd.R_below (by (with_reducible repeat (first|apply Kd.R_alloc));exact (Kd.R_mono (Kd.R_far (p:=⟨gb348,1,none⟩) (Kd.R_far (p:=⟨gb348,0,none⟩) (Kd.R_types HO336.out BK348.out (by decide)) (fun _ hk=>hk.2) (.slice Ao38 t341.length co38)) (fun _ hk=>hk.2) (.slice Ao43 t344.length co43)) (fun _ h_=>h_.1))) hb);have n5_:=Aside0.mk (Kd.R_below (by (with_reducible repeat (first|apply Kd.R_alloc));exact (Kd.R_mono (Kd.R_far (p:=⟨gb348,1,none⟩) (Kd.R_far (p:=⟨gb348,0,none⟩) (Kd.R_types HO339.out BK348.out (by decide)) (fun _ hk=>hk.2) (.slice Ao38 t341.length co38)) (fun _ hk=>hk.2) (.slice Ao43 t344.length co43)) (fun _ h_=>h_.1))) hb);have n6_:=Aside0.mk (Kd.R_below (by (with_reducible repeat (first|apply Kd.R_alloc));exact (Kd.R_mono (Kd.R_far (p:=⟨gb348,1,none⟩) (Kd.R_far (p:=⟨gb348,0,none⟩) (Kd.R_types HO343.out BK348.out (by decide)) (fun _ hk=>hk.2) (.slice Ao38 t341.length co38)) (fun _ hk=>hk.2) (.slice Ao43 t344.length co43)) (fun _ h_=>h_.1))) hb);have n7_:=Aside0.mk (Kd.R_below (by (with_reducible repeat (first|apply Kd.R_alloc));exact (Kd.R_mono (Kd.R_far (p:=⟨gb348,1,none⟩) (Kd.R_far (p:=⟨gb348,0,none⟩) (Kd.R_types HO346.out BK348.out (by decide)) (fun _ hk=>hk.2) (.slice Ao38 t341.length co38)) (fun _ hk=>hk.2) (.slice Ao43 t344.length co43)) (fun _ h_=>h_.1))) hb);have n8_:=Aside0.mk (blk_below (g:=gb318) (o:=.cells #[.slice A0_0 l0_0.length c0_0,.slice A0_1 l0_1.length c0_1] 30 (0,0)) (by (with_reducible repeat (refine blk_alloc ?_ _));refine blk_far ?_ NB318_348.out _;(with_reducible repeat (refine blk_alloc ?_ _));refine blk_far ?_ NB318_348.out _;(with_reducible repeat (refine blk_alloc ?_ _));exact BK318.out) hb);have n9_:=Aside0.mk (blk_below (g:=gb333) (o:=.cells #[.slice Ao24 t326.length co24,.slice Ao27 t329.length co27] 34 (0,0)) (by (with_reducible repeat (refine blk_alloc ?_ _));refine blk_far ?_ NB333_348.out _;(with_reducible repeat (refine blk_alloc ?_ _));refine blk_far ?_ NB333_348.out _;(with_reducible repeat (refine blk_alloc ?_ _));exact BK333.out) hb);have n10_:=Aside0.mk (blk_below (g:=gb340) (o:=.cells #[.slice Ao31 t334.length co31,.slice Ao35 t337.length co35] 34 (0,0)) (by (with_reducible repeat (refine blk_alloc ?_ _));refine blk_far ?_ NB340_348.out _;(with_reducible repeat (refine blk_alloc ?_ _));refine blk_far ?_ NB340_348.out _;(with_reducible repeat (refine blk_alloc ?_ _));exact BK340.out) hb);have n11_:=Aside0.mk (blk_below (g:=gb348) (o:=.cells #[.slice Ao38 t341.length co38,.slice Ao43 t344.length co43] 34 (0,0)) (by (with_reducible repeat (refine blk_alloc ?_ _));refine blk_put (cs:=#[.slice Ao38 t341.length co38,.slice none 0 0]) ?_ 1 _ rfl;(with_reducible repeat (refine blk_alloc ?_ _));refine blk_put (cs:=#[.slice none 0 0,.slice none 0 0]) ?_ 0 _ rfl;(with_reducible repeat (refine blk_alloc ?_ _));exact BK348.out) hb);have n12_:=Aside0.mk (below_step (by repeat (first|(with_reducible first|exact HB.out|apply below_alloc|refine below_set ?_ GE318.out|refine below_set ?_ GE333.out|refine below_set ?_ GE340.out|refine below_set ?_ GE348.out)|exact HB.out)) hb);clear HO322;clear HO325;clear HO328;clear HO331;clear HO336;clear HO339;clear HO343;clear HO346;clear BK318;clear BK333;clear BK340;clear BK348;clear HB;have HO322:=n0_;have HO325:=n1_;have HO328:=n2_;have HO331:=n3_;have HO336:=n4_;have HO339:=n5_;have HO343:=n6_;have HO346:=n7_;have BK318:=n8_;have BK333:=n9_;have BK340:=n10_;have BK348:=n11_;have HB:=n12_;clear n0_ n1_ n2_ n3_ n4_ n5_ n6_ n7_ n8_ n9_ n10_ n11_ n12_;(try clear hb);(try clear hb2);(try clear hk);(try clear hi)))
     go_meet
     case rel=>exact ⟨_,(true),(by first|rfl|(simp;done)|(simp [*];done)),H',⟨by first|omega|exact Nat.le_refl _⟩,⟨by (with_reducible repeat (first|apply Kd.R_alloc));exact Kd.R_mono HO328.out (fun _ hk=>⟨hk.1.1.1.1.1.1,⟨hk.1.1.1.2,⟨hk.1.1.2,⟨hk.1.2,hk.2⟩⟩⟩⟩)⟩,⟨by (with_reducible repeat (first|apply Kd.R_alloc));exact Kd.R_mono HO331.out (fun _ hk=>⟨hk.1.1.1.1.1.1,⟨hk.1.1.1.2,⟨hk.1.1.2,⟨hk.1.2,hk.2⟩⟩⟩⟩)⟩,⟨by (with_reducible repeat (first|apply Kd.R_alloc));exact Kd.R_mono HO336.out (fun _ hk=>⟨hk.1.1.1.2,⟨hk.1.1.2,⟨hk.1.1.1.1.1.1,⟨hk.1.2,hk.2⟩⟩⟩⟩)⟩,⟨by (with_reducible repeat (first|apply Kd.R_alloc));exact Kd.R_mono HO339.out (fun _ hk=>⟨hk.1.1.1.2,⟨hk.1.1.2,⟨hk.1.1.1.1.1.1,⟨hk.1.2,hk.2⟩⟩⟩⟩)⟩,⟨by (with_reducible repeat (first|apply Kd.R_alloc));exact Kd.R_mono HO343.out (fun _ hk=>⟨hk.1.1.1.2,⟨hk.1.1.2,⟨hk.1.2,⟨hk.2,hk.1.1.1.1.1.1⟩⟩⟩⟩)⟩,⟨by (with_reducible repeat (first|apply Kd.R_alloc));exact Kd.R_mono HO346.out (fun _ hk=>⟨hk.1.1.1.2,⟨hk.1.1.2,⟨hk.1.2,⟨hk.2,hk.1.1.1.1.1.1⟩⟩⟩⟩)⟩,⟨by (with_reducible repeat (refine blk_alloc ?_ _));exact BK318.out⟩,⟨by (with_reducible repeat (refine blk_alloc ?_ _));exact BK333.out⟩,⟨by (with_reducible repeat (refine blk_alloc ?_ _));exact BK340.out⟩,⟨by (with_reducible repeat (refine blk_alloc ?_ _));exact BK348.out⟩,⟨by repeat (first|(with_reducible first|exact HB.out|apply below_alloc|refine below_set ?_ GE318.out|refine below_set ?_ GE333.out|refine below_set ?_ GE340.out|refine below_set ?_ GE348.out)|exact HB.out)⟩⟩
   case rest =>
    clear HC14
    try clear c1
    try clear c2
    try clear p2
    try clear c3
    try clear c3b0
    try clear c3b1
    try clear c4
    try clear c5
    try clear c6
    try clear c6b0
    try clear c7
    try clear c13
    try clear c15
    try clear c18
    try clear c25
    try clear c26
    try clear c32
    try clear c33
    try clear c39
    try clear c40
    try clear c41
    try clear c45
    try clear c46
    try clear c47
    try clear c48
    try clear c50
    try clear c51
    try clear c54
    try clear c55
    try clear c56
    try clear c58
    try clear c59
    try clear hcz16_0
    try clear hcz16_1
    try clear hcz18_0
    try clear hcz18_1
    try clear hcz26_0
    try clear hcz26_1
    try clear hcz28_0
    try clear hcz28_1
    try clear hcz34_0
    try clear hcz34_1
    try clear hcz42_0
    try clear hcz42_1
    try clear hcz49_0
    try clear hcz49_1
    try clear hcz52_0
    try clear hcz52_1
    try clear hcz57_0
    try clear hcz57_1
    try clear hcz60_0
    try clear hcz60_1
    try clear hcz8_0
    try clear hcz8_1
    try clear hfz16_0
    try clear hfz16_1
    try clear hfz18_0
    try clear hfz18_1
    try clear hfz26_0
    try clear hfz26_1
    try clear hfz28_0
    try clear hfz28_1
    try clear hfz34_0
    try clear hfz34_1
    try clear hfz42_0
    try clear hfz42_1
    try clear hfz49_0
    try clear hfz49_1
    try clear hfz52_0
    try clear hfz52_1
    try clear hfz57_0
    try clear hfz57_1
    try clear hfz60_0
    try clear hfz60_1
    try clear hfz8_0
    try clear hfz8_1
    obtain ⟨kq,x47_13,rfl,HA,HJ13,HO_334000,HO_334001,HO_341000,HO_341001,HO_349000,HO_349001,BK318,BK333,BK340,BK348,HB⟩:=hcut
    cases kq with
    | zero=>exact absurd HA.out (by simp [laws_FnExactPutText.j0])
    | succ kj13 =>
     have H:=HA.out
     clear HA
     simp only [laws_FnExactPutText.j0] at H
     by_cases c62:x47_13 = true
     ·subst c62
      have H1:(some false) = some r:=by rw [if_pos rfl] at H;exact H
      clear H
      have H:=H1
      clear H1
      obtain rfl:=Option.some.inj H
      go_wp2
      go_ret
      exact ⟨by first|rfl|(simp [errW_none,errW_some] <;> rfl)|(simp [*,errW_none,errW_some] <;> rfl),by repeat (first|(with_reducible first|exact HB.out|apply below_alloc|refine below_set ?_ GE318.out|refine below_set ?_ GE333.out|refine below_set ?_ GE340.out|refine below_set ?_ GE348.out)|exact HB.out)⟩
     ·replace c62:=Bool.eq_false_iff.mpr c62
      subst c62
      have H1:((laws_toDisk.f kj13 l0_0 l0_1).bind fun bt350=>((laws_eqDisk.f kj13 t334 t337 bt350.1 bt350.2).bind fun t356=>(if t356 = true then ((laws_markDisk.f kj13 t334 t337 1).bind fun bt357=>(if bt357.1 < 0 then (laws_FnExactPutText.j1 kj13 a1 t332 true l0_0 l0_1 t326 t329 t341 t344) else ((laws_eqDisk.f kj13 t341 t344 t326 t329).bind fun t360=>(if t360 = true then (laws_FnExactPutText.j1 kj13 a1 t332 (t347 != t332) l0_0 l0_1 t326 t329 t341 t344) else (laws_FnExactPutText.j1 kj13 a1 t332 true l0_0 l0_1 t326 t329 t341 t344))))) else (some false)))) = some r:=by rw [if_neg (show ¬ (false = true) by decide)] at H;exact H
      clear H
      have H:=H1
      clear H1
      replace H:=Option.bind_eq_some_iff.mp H
      obtain ⟨⟨t350,t353⟩,A630,H⟩:=H
      replace H:((laws_eqDisk.f kj13 t334 t337 t350 t353).bind fun t356=>(if t356 = true then ((laws_markDisk.f kj13 t334 t337 1).bind fun bt357=>(if bt357.1 < 0 then (laws_FnExactPutText.j1 kj13 a1 t332 true l0_0 l0_1 t326 t329 t341 t344) else ((laws_eqDisk.f kj13 t341 t344 t326 t329).bind fun t360=>(if t360 = true then (laws_FnExactPutText.j1 kj13 a1 t332 (t347 != t332) l0_0 l0_1 t326 t329 t341 t344) else (laws_FnExactPutText.j1 kj13 a1 t332 true l0_0 l0_1 t326 t329 t341 t344))))) else (some false))) = some r:=H
      have A63:=Aside0.mk A630
      clear A630
      replace H:=Option.bind_eq_some_iff.mp H
      obtain ⟨t356,A640,H⟩:=H
      replace H:(if t356 = true then ((laws_markDisk.f kj13 t334 t337 1).bind fun bt357=>(if bt357.1 < 0 then (laws_FnExactPutText.j1 kj13 a1 t332 true l0_0 l0_1 t326 t329 t341 t344) else ((laws_eqDisk.f kj13 t341 t344 t326 t329).bind fun t360=>(if t360 = true then (laws_FnExactPutText.j1 kj13 a1 t332 (t347 != t332) l0_0 l0_1 t326 t329 t341 t344) else (laws_FnExactPutText.j1 kj13 a1 t332 true l0_0 l0_1 t326 t329 t341 t344))))) else (some false)) = some r:=H
      have A64:=Aside0.mk A640
      clear A640
      by_cases c65:t356 = true
      ·subst c65
       have H1:((laws_markDisk.f kj13 t334 t337 1).bind fun bt357=>(if bt357.1 < 0 then (laws_FnExactPutText.j1 kj13 a1 t332 true l0_0 l0_1 t326 t329 t341 t344) else ((laws_eqDisk.f kj13 t341 t344 t326 t329).bind fun t360=>(if t360 = true then (laws_FnExactPutText.j1 kj13 a1 t332 (t347 != t332) l0_0 l0_1 t326 t329 t341 t344) else (laws_FnExactPutText.j1 kj13 a1 t332 true l0_0 l0_1 t326 t329 t341 t344))))) = some r:=by rw [if_pos rfl] at H;exact H
       clear H
       have H:=H1
       clear H1
       replace H:=Option.bind_eq_some_iff.mp H
       obtain ⟨⟨t357,t358,t359⟩,A660,H⟩:=H
       replace H:(if t357 < 0 then (laws_FnExactPutText.j1 kj13 a1 t332 true l0_0 l0_1 t326 t329 t341 t344) else ((laws_eqDisk.f kj13 t341 t344 t326 t329).bind fun t360=>(if t360 = true then (laws_FnExactPutText.j1 kj13 a1 t332 (t347 != t332) l0_0 l0_1 t326 t329 t341 t344) else (laws_FnExactPutText.j1 kj13 a1 t332 true l0_0 l0_1 t326 t329 t341 t344)))) = some r:=H
       have A66:=Aside0.mk A660
       clear A660
       have HC67:=Aside0.mk H
       clear H
       try go_wp2
       have n0_:=Aside0.mk (Kd.R_drew HO_334000.out)
       have n1_:=Aside0.mk (Kd.R_drew HO_334001.out)
       have n2_:=Aside0.mk (Kd.R_drew HO_341000.out)
       have n3_:=Aside0.mk (Kd.R_drew HO_341001.out)
       have n4_:=Aside0.mk (Kd.R_drew HO_349000.out)
       have n5_:=Aside0.mk (Kd.R_drew HO_349001.out)
       have n6_:=Aside0.mk (blk_drew BK318.out)
       have n7_:=Aside0.mk (blk_drew BK333.out)
       have n8_:=Aside0.mk (blk_drew BK340.out)
       have n9_:=Aside0.mk (blk_drew BK348.out)
       have n10_:=Aside0.mk (below_drew1 HB.out)
       clear HO_334000
       clear HO_334001
       clear HO_341000
       clear HO_341001
       clear HO_349000
       clear HO_349001
       clear BK318
       clear BK333
       clear BK340
       clear BK348
       clear HB
       have HO_334000:=n0_
       have HO_334001:=n1_
       have HO_341000:=n2_
       have HO_341001:=n3_
       have HO_349000:=n4_
       have HO_349001:=n5_
       have BK318:=n6_
       have BK333:=n7_
       have BK340:=n8_
       have BK348:=n9_
       have HB:=n10_
       clear n0_ n1_ n2_ n3_ n4_ n5_ n6_ n7_ n8_ n9_ n10_
       refine start_ (n:=5) (S:=fun w'=>w'.cell? ⟨gb340,0,none⟩ = some (.slice Ao31 t334.length co31) ∧ w'.cell? ⟨gb340,1,none⟩ = some (.slice Ao35 t337.length co35) ∧ w'.cell? ⟨gb318,0,none⟩ = some (.slice A0_0 l0_0.length c0_0) ∧ w'.cell? ⟨gb318,1,none⟩ = some (.slice A0_1 l0_1.length c0_1)) (ds:=[]) #[false,false,false,false,false] (by kernel_rfl) rfl rfl ⟨(blk_cell BK340.out 0).trans rfl,(blk_cell BK340.out 1).trans rfl,(blk_cell BK318.out 0).trans rfl,(blk_cell BK318.out 1).trans rfl⟩ (fun hHeld=>?_)
       generalize wc.drew = w68 at HO_334000 HO_334001 HO_341000 HO_341001 HO_349000 HO_349001 BK318 BK333 BK340 BK348 HB hHeld ⊢
       refine take_ (i:=0) (N:=some 48) (v:=?_) (a':=?_) #[true,false,false,false,false] rfl rfl (by kernel_rfl) (fun _ _ _ h=>h) (Or.inl ⟨by rfl,?_⟩) hHeld ?_ ?_
       rotate_left
       ·rintro w' ⟨s0,s1,s2,s3⟩
        go_simp
        with_reducible rfl
       rotate_left
       ·simp only [Act.put,List.setIfInBounds_toArray,List.set_cons_zero,List.set_cons_succ,i64_w,i32_w]
        rfl
       refine take_ (i:=1) (N:=some 49) (v:=?_) (a':=?_) #[true,true,false,false,false] rfl rfl (by kernel_rfl) (fun _ _ _ h=>h) (Or.inl ⟨by rfl,?_⟩) hHeld ?_ ?_
       rotate_left
       ·rintro w' ⟨s0,s1,s2,s3⟩
        go_simp
        with_reducible rfl
       rotate_left
       ·simp only [Act.put,List.setIfInBounds_toArray,List.set_cons_zero,List.set_cons_succ,i64_w,i32_w]
        rfl
       refine one_ (i:=2) (N:=some 50) #[true,true,true,false,false] rfl rfl (by kernel_rfl) (by decide) (fun K hK=>?_)
       refine goes_ Try.func15 (by kernel_rfl) rfl #[.agg #[.slice A0_0 l0_0.length c0_0,.slice A0_1 l0_1.length c0_1]] (by rfl) rfl rfl (by (try simp only [List.map_toArray,List.map_cons,List.map_nil]);first|done|rfl|(simp only [List.length_drop,List.length_take];rfl)) ?_
       with_reducible refine (laws_toDisk.calls kj13 _ _ l0_0 _ _ l0_1 t350 t353 _ ?side1 ?side2 ?side3 ?side4 A63.out).mono ?_
       (case side1=>repeat (first|exact (Kd.C_below HR0_0.out HB.out)|(with_reducible refine Kd.C_alloc ?_ _)))
       (case side2=>exact HC0_0.out)
       (case side3=>repeat (first|exact (Kd.C_below HR0_1.out HB.out)|(with_reducible refine Kd.C_alloc ?_ _)))
       (case side4=>exact HC0_1.out)
       rintro e w69 ⟨v351,v354,rfl,ho0,ho1,hb⟩
       refine ⟨_,rfl,?_⟩
       have n0_:=Aside0.mk (Kd.R_mono (Kd.R_told (Kd.R_told (Kd.R_old (by (with_reducible repeat (first|apply Kd.R_alloc));exact HO_334000.out) hb) (Kd.R_base ho0)) (Kd.R_base ho1)) (fun _ h_=>h_.1))
       have n1_:=Aside0.mk (Kd.R_mono (Kd.R_told (Kd.R_told (Kd.R_old (by (with_reducible repeat (first|apply Kd.R_alloc));exact HO_334001.out) hb) (Kd.R_base ho0)) (Kd.R_base ho1)) (fun _ h_=>h_.1))
       have n2_:=Aside0.mk (Kd.R_mono (Kd.R_told (Kd.R_told (Kd.R_old (by (with_reducible repeat (first|apply Kd.R_alloc));exact HO_341000.out) hb) (Kd.R_base ho0)) (Kd.R_base ho1)) (fun _ h_=>h_.1))
       have n3_:=Aside0.mk (Kd.R_mono (Kd.R_told (Kd.R_told (Kd.R_old (by (with_reducible repeat (first|apply Kd.R_alloc));exact HO_341001.out) hb) (Kd.R_base ho0)) (Kd.R_base ho1)) (fun _ h_=>h_.1))
       have n4_:=Aside0.mk (Kd.R_mono (Kd.R_told (Kd.R_told (Kd.R_old (by (with_reducible repeat (first|apply Kd.R_alloc));exact HO_349000.out) hb) (Kd.R_base ho0)) (Kd.R_base ho1)) (fun _ h_=>h_.1))
       have n5_:=Aside0.mk (Kd.R_mono (Kd.R_told (Kd.R_told (Kd.R_old (by (with_reducible repeat (first|apply Kd.R_alloc));exact HO_349001.out) hb) (Kd.R_base ho0)) (Kd.R_base ho1)) (fun _ h_=>h_.1))
       have n6_:=Aside0.mk (Kd.R_lower (Kd.R_new' (Kd.R_new' (Kd.R_new' (Kd.R_new' (Kd.R_new' (Kd.R_new' ho0 (Kd.R_lt (by (with_reducible repeat (first|apply Kd.R_alloc));exact HO_334000.out))) (Kd.R_lt (by (with_reducible repeat (first|apply Kd.R_alloc));exact HO_334001.out))) (Kd.R_lt (by (with_reducible repeat (first|apply Kd.R_alloc));exact HO_341000.out))) (Kd.R_lt (by (with_reducible repeat (first|apply Kd.R_alloc));exact HO_341001.out))) (Kd.R_lt (by (with_reducible repeat (first|apply Kd.R_alloc));exact HO_349000.out))) (Kd.R_lt (by (with_reducible repeat (first|apply Kd.R_alloc));exact HO_349001.out))) (below_size (by repeat (first|(with_reducible first|exact HB.out|apply below_alloc|refine below_set ?_ GE318.out|refine below_set ?_ GE333.out|refine below_set ?_ GE340.out|refine below_set ?_ GE348.out)|exact HB.out))))
       have n7_:=Aside0.mk (Kd.R_lower (Kd.R_new' (Kd.R_new' (Kd.R_new' (Kd.R_new' (Kd.R_new' (Kd.R_new' ho1 (Kd.R_lt (by (with_reducible repeat (first|apply Kd.R_alloc));exact HO_334000.out))) (Kd.R_lt (by (with_reducible repeat (first|apply Kd.R_alloc));exact HO_334001.out))) (Kd.R_lt (by (with_reducible repeat (first|apply Kd.R_alloc));exact HO_341000.out))) (Kd.R_lt (by (with_reducible repeat (first|apply Kd.R_alloc));exact HO_341001.out))) (Kd.R_lt (by (with_reducible repeat (first|apply Kd.R_alloc));exact HO_349000.out))) (Kd.R_lt (by (with_reducible repeat (first|apply Kd.R_alloc));exact HO_349001.out))) (below_size (by repeat (first|(with_reducible first|exact HB.out|apply below_alloc|refine below_set ?_ GE318.out|refine below_set ?_ GE333.out|refine below_set ?_ GE340.out|refine below_set ?_ GE348.out)|exact HB.out))))
       have n8_:=Aside0.mk (blk_below (g:=gb318) (o:=.cells #[.slice A0_0 l0_0.length c0_0,.slice A0_1 l0_1.length c0_1] 30 (0,0)) (by (with_reducible repeat (refine blk_alloc ?_ _));exact BK318.out) hb)
       have n9_:=Aside0.mk (blk_below (g:=gb333) (o:=.cells #[.slice Ao24 t326.length co24,.slice Ao27 t329.length co27] 34 (0,0)) (by (with_reducible repeat (refine blk_alloc ?_ _));exact BK333.out) hb)
       have n10_:=Aside0.mk (blk_below (g:=gb340) (o:=.cells #[.slice Ao31 t334.length co31,.slice Ao35 t337.length co35] 34 (0,0)) (by (with_reducible repeat (refine blk_alloc ?_ _));exact BK340.out) hb)
       have n11_:=Aside0.mk (blk_below (g:=gb348) (o:=.cells #[.slice Ao38 t341.length co38,.slice Ao43 t344.length co43] 34 (0,0)) (by (with_reducible repeat (refine blk_alloc ?_ _));exact BK348.out) hb)
       have n12_:=Aside0.mk (below_step (by repeat (first|(with_reducible first|exact HB.out|apply below_alloc|refine below_set ?_ GE318.out|refine below_set ?_ GE333.out|refine below_set ?_ GE340.out|refine below_set ?_ GE348.out)|exact HB.out)) hb)
       clear HO_334000
       clear HO_334001
       clear HO_341000
       clear HO_341001
       clear HO_349000
       clear HO_349001
       clear BK318
       clear BK333
       clear BK340
       clear BK348
       clear HB
       have HO_334000:=n0_
       have HO_334001:=n1_
       have HO_341000:=n2_
       have HO_341001:=n3_
       have HO_349000:=n4_
       have HO_349001:=n5_
       have HO352:=n6_
       have HO355:=n7_
       have BK318:=n8_
       have BK333:=n9_
       have BK340:=n10_
       have BK348:=n11_
       have HB:=n12_
       clear n0_ n1_ n2_ n3_ n4_ n5_ n6_ n7_ n8_ n9_ n10_ n11_ n12_
       (try clear hb)
       (try clear hb2)
       (try clear hk)
       (try clear hi)
       (try clear ho0)
       (try clear ho1)
       obtain ⟨Ao70,co70,eo70⟩:=Kd.R_slice HO352.out
       (first|subst eo70|(injection eo70 with f1_ f2_ f3_;have f4_:=f1_.symm;have f5_:=f3_.symm;clear f1_ f2_ f3_;subst f4_;subst f5_))
       obtain ⟨Ao71,co71,eo71⟩:=Kd.R_slice HO355.out
       (first|subst eo71|(injection eo71 with f1_ f2_ f3_;have f4_:=f1_.symm;have f5_:=f3_.symm;clear f1_ f2_ f3_;subst f4_;subst f5_))
       refine hK.out _ _ ⟨(blk_cell BK340.out 0).trans rfl,(blk_cell BK340.out 1).trans rfl,(blk_cell BK318.out 0).trans rfl,(blk_cell BK318.out 1).trans rfl⟩ (fun hHeld=>?_)
       clear hK K
       refine norm_ (a':=?_) ?_ ?_
       rotate_left
       ·show Act.put _ (some 50) _ = _
        simp only [Act.put,List.setIfInBounds_toArray,List.set_cons_zero,List.set_cons_succ,i64_w,i32_w]
        rfl
       refine one_ (i:=3) (N:=some 51) #[true,true,true,true,false] rfl rfl (by kernel_rfl) (by decide) (fun K hK=>?_)
       refine goes_ Try.func18 (by kernel_rfl) rfl #[.agg #[.slice Ao31 t334.length co31,.slice Ao35 t337.length co35],.agg #[.slice Ao70 t350.length co70,.slice Ao71 t353.length co71]] (by rfl) rfl rfl (by (try simp only [List.map_toArray,List.map_cons,List.map_nil]);first|done|rfl|(simp only [List.length_drop,List.length_take];rfl)) ?_
       with_reducible refine (laws_eqDisk.calls kj13 _ _ t334 _ _ t337 _ _ t350 _ _ t353 true _ ?side1 ?side2 ?side3 ?side4 ?side5 ?side6 ?side7 ?side8 A64.out).mono ?_
       (case side1=>repeat (first|exact (Kd.R_reads' HO_341000.out).2.2|(with_reducible refine Kd.C_alloc ?_ _)))
       (case side2=>exact (Kd.R_reads' HO_341000.out).2.1)
       (case side3=>repeat (first|exact (Kd.R_reads' HO_341001.out).2.2|(with_reducible refine Kd.C_alloc ?_ _)))
       (case side4=>exact (Kd.R_reads' HO_341001.out).2.1)
       (case side5=>repeat (first|exact (Kd.R_reads' HO352.out).2.2|(with_reducible refine Kd.C_alloc ?_ _)))
       (case side6=>exact (Kd.R_reads' HO352.out).2.1)
       (case side7=>repeat (first|exact (Kd.R_reads' HO355.out).2.2|(with_reducible refine Kd.C_alloc ?_ _)))
       (case side8=>exact (Kd.R_reads' HO355.out).2.1)
       rintro e w72 ⟨rfl,hb⟩
       refine ⟨_,rfl,?_⟩
       have n0_:=Aside0.mk (Kd.R_below (by (with_reducible repeat (first|apply Kd.R_alloc));exact HO_334000.out) hb)
       have n1_:=Aside0.mk (Kd.R_below (by (with_reducible repeat (first|apply Kd.R_alloc));exact HO_334001.out) hb)
       have n2_:=Aside0.mk (Kd.R_below (by (with_reducible repeat (first|apply Kd.R_alloc));exact HO_341000.out) hb)
       have n3_:=Aside0.mk (Kd.R_below (by (with_reducible repeat (first|apply Kd.R_alloc));exact HO_341001.out) hb)
       have n4_:=Aside0.mk (Kd.R_below (by (with_reducible repeat (first|apply Kd.R_alloc));exact HO_349000.out) hb)
       have n5_:=Aside0.mk (Kd.R_below (by (with_reducible repeat (first|apply Kd.R_alloc));exact HO_349001.out) hb)
       have n6_:=Aside0.mk (Kd.R_below (by (with_reducible repeat (first|apply Kd.R_alloc));exact HO352.out) hb)
       have n7_:=Aside0.mk (Kd.R_below (by (with_reducible repeat (first|apply Kd.R_alloc));exact HO355.out) hb)
       have n8_:=Aside0.mk (blk_below (g:=gb318) (o:=.cells #[.slice A0_0 l0_0.length c0_0,.slice A0_1 l0_1.length c0_1] 30 (0,0)) (by (with_reducible repeat (refine blk_alloc ?_ _));exact BK318.out) hb)
       have n9_:=Aside0.mk (blk_below (g:=gb333) (o:=.cells #[.slice Ao24 t326.length co24,.slice Ao27 t329.length co27] 34 (0,0)) (by (with_reducible repeat (refine blk_alloc ?_ _));exact BK333.out) hb)
       have n10_:=Aside0.mk (blk_below (g:=gb340) (o:=.cells #[.slice Ao31 t334.length co31,.slice Ao35 t337.length co35] 34 (0,0)) (by (with_reducible repeat (refine blk_alloc ?_ _));exact BK340.out) hb)
       have n11_:=Aside0.mk (blk_below (g:=gb348) (o:=.cells #[.slice Ao38 t341.length co38,.slice Ao43 t344.length co43] 34 (0,0)) (by (with_reducible repeat (refine blk_alloc ?_ _));exact BK348.out) hb)
       have n12_:=Aside0.mk (below_step (by repeat (first|(with_reducible first|exact HB.out|apply below_alloc|refine below_set ?_ GE318.out|refine below_set ?_ GE333.out|refine below_set ?_ GE340.out|refine below_set ?_ GE348.out)|exact HB.out)) hb)
       clear HO_334000
       clear HO_334001
       clear HO_341000
       clear HO_341001
       clear HO_349000
       clear HO_349001
       clear HO352
       clear HO355
       clear BK318
       clear BK333
       clear BK340
       clear BK348
       clear HB
       have HO_334000:=n0_
       have HO_334001:=n1_
       have HO_341000:=n2_
       have HO_341001:=n3_
       have HO_349000:=n4_
       have HO_349001:=n5_
       have HO352:=n6_
       have HO355:=n7_
       have BK318:=n8_
       have BK333:=n9_
       have BK340:=n10_
       have BK348:=n11_
       have HB:=n12_
       clear n0_ n1_ n2_ n3_ n4_ n5_ n6_ n7_ n8_ n9_ n10_ n11_ n12_
       (try clear hb)
       (try clear hb2)
       (try clear hk)
       (try clear hi)
       refine hK.out _ _ ⟨(blk_cell BK340.out 0).trans rfl,(blk_cell BK340.out 1).trans rfl,(blk_cell BK318.out 0).trans rfl,(blk_cell BK318.out 1).trans rfl⟩ (fun hHeld=>?_)
       clear hK K
       refine norm_ (a':=?_) ?_ ?_
       rotate_left
       ·show Act.put _ (some 51) _ = _
        simp only [Act.put,List.setIfInBounds_toArray,List.set_cons_zero,List.set_cons_succ,i64_w,i32_w]
        rfl
       refine pure_ (i:=4) (N:=some 52) (v:=?_) (a':=?_) #[true,true,true,true,true] rfl rfl (by kernel_rfl) (fun _ _ _ h=>h) (Or.inl ⟨by rfl,?_⟩) ?_ ?_
       rotate_left
       ·intro w'
        go_simp
        with_reducible rfl
       rotate_left
       ·simp only [Act.put,List.setIfInBounds_toArray,List.set_cons_zero,List.set_cons_succ,i64_w,i32_w]
        rfl
       refine done_ (by kernel_rfl) ?_
       have hnb73:=NB340_318.out
       have hnc73:=NB318_340.out
       have hnb74:=NB340_333.out
       have hnc74:=NB333_340.out
       have hnb75:=NB340_348.out
       have hnc75:=NB348_340.out
       have hcz76_0:w72.cell? ⟨gb340,0,none⟩ = some (.slice Ao31 t334.length co31):=(blk_cell BK340.out 0).trans rfl
       have hcz76_1:w72.cell? ⟨gb340,1,none⟩ = some (.slice Ao35 t337.length co35):=(blk_cell BK340.out 1).trans rfl
       have hfz76_0:=blk_frozen BK340.out 0
       have hfz76_1:=blk_frozen BK340.out 1
       go_upto_region 16 with (first|((with_reducible refine gate_callee (f:=19) rfl ?_);refine goesL_ (some 55) rfl rfl Try.func19 (by kernel_rfl) rfl #[.agg #[.slice Ao31 t334.length co31,.slice Ao35 t337.length co35],.int .i64 1] rfl (by (try simp only [List.map_toArray,List.map_cons,List.map_nil]);first|done|rfl|(simp only [List.length_drop,List.length_take];rfl)) ?_;(with_reducible refine (laws_markDisk.calls kj13 (fun k_=>some k_ = (.slice Ao31 t334.length co31:Value).ownBlock) (.slice Ao31 t334.length co31) t334 (fun k_=>some k_ = (.slice Ao35 t337.length co35:Value).ownBlock) (.slice Ao35 t337.length co35) t337 1 t357 t358 t359 w _ ?side1 ?side2 ?side3 ?side4 ?side5 A66.out).mono ?_);(case side1=>repeat (first|(with_reducible first|exact HB.out|apply below_alloc|refine below_set ?_ GE318.out|refine below_set ?_ GE333.out|refine below_set ?_ GE340.out|refine below_set ?_ GE348.out)|exact HB.out));(case side2=>exact Kd.R_tight rfl HO_341000.out);(case side3=>exact fun k_ e_=>(HO_341000.out.1 k_ e_.symm).1.1.2.2.1);(case side4=>exact Kd.R_tight rfl HO_341001.out);(case side5=>exact fun k_ e_=>(HO_341001.out.1 k_ e_.symm).1.1.2.2.1);rintro e w77 ⟨rfl,hy0,hy1,hb,hkp⟩;refine ⟨_,rfl,?_⟩;have n0_:=Aside0.mk (Kd.R_mono (ok':=fun k_=>some k_ ≠ (.slice Ao27 t329.length co27:Value).ownBlock ∧ some k_ ≠ (.slice Ao31 t334.length co31:Value).ownBlock ∧ some k_ ≠ (.slice Ao35 t337.length co35:Value).ownBlock ∧ some k_ ≠ (.slice Ao38 t341.length co38:Value).ownBlock ∧ some k_ ≠ (.slice Ao43 t344.length co43:Value).ownBlock ∧ some k_ ≠ (.slice Ao70 t350.length co70:Value).ownBlock ∧ some k_ ≠ (.slice Ao71 t353.length co71:Value).ownBlock) (Kd.R_keptB (HO_334000.out) hkp (fun k_ hk_ hs_=>Or.elim hs_ (fun e_=>(hk_.1.1.2.1) e_) (fun e_=>(hk_.1.1.2.2.1) e_))) (fun k_ hk_=>⟨hk_.1.1.1.1,hk_.1.1.1.2.1,hk_.1.1.1.2.2.1,hk_.1.1.1.2.2.2.1,hk_.1.1.1.2.2.2.2,hk_.1.1.2,hk_.1.2⟩));have n1_:=Aside0.mk (Kd.R_mono (ok':=fun k_=>some k_ ≠ (.slice Ao24 t326.length co24:Value).ownBlock ∧ some k_ ≠ (.slice Ao31 t334.length co31:Value).ownBlock ∧ some k_ ≠ (.slice Ao35 t337.length co35:Value).ownBlock ∧ some k_ ≠ (.slice Ao38 t341.length co38:Value).ownBlock ∧ some k_ ≠ (.slice Ao43 t344.length co43:Value).ownBlock ∧ some k_ ≠ (.slice Ao70 t350.length co70:Value).ownBlock ∧ some k_ ≠ (.slice Ao71 t353.length co71:Value).ownBlock) (Kd.R_keptB (HO_334001.out) hkp (fun k_ hk_ hs_=>Or.elim hs_ (fun e_=>(hk_.1.1.2.1) e_) (fun e_=>(hk_.1.1.2.2.1) e_))) (fun k_ hk_=>⟨hk_.1.1.1.1,hk_.1.1.1.2.1,hk_.1.1.1.2.2.1,hk_.1.1.1.2.2.2.1,hk_.1.1.1.2.2.2.2,hk_.1.1.2,hk_.1.2⟩));have n2_:=Aside0.mk (Kd.R_reok rfl hy0 (fun k_ e_=>HO_341000.out.1 k_ e_));have n3_:=Aside0.mk (Kd.R_reok rfl hy1 (fun k_ e_=>HO_341001.out.1 k_ e_));have n4_:=Aside0.mk (Kd.R_mono (ok':=fun k_=>some k_ ≠ (.slice Ao24 t326.length co24:Value).ownBlock ∧ some k_ ≠ (.slice Ao27 t329.length co27:Value).ownBlock ∧ some k_ ≠ (.slice Ao31 t334.length co31:Value).ownBlock ∧ some k_ ≠ (.slice Ao35 t337.length co35:Value).ownBlock ∧ some k_ ≠ (.slice Ao43 t344.length co43:Value).ownBlock ∧ some k_ ≠ (.slice Ao70 t350.length co70:Value).ownBlock ∧ some k_ ≠ (.slice Ao71 t353.length co71:Value).ownBlock) (Kd.R_keptB (HO_349000.out) hkp (fun k_ hk_ hs_=>Or.elim hs_ (fun e_=>(hk_.1.1.2.2.1) e_) (fun e_=>(hk_.1.1.2.2.2.1) e_))) (fun k_ hk_=>⟨hk_.1.1.1.1,hk_.1.1.1.2.1,hk_.1.1.1.2.2.1,hk_.1.1.1.2.2.2.1,hk_.1.1.1.2.2.2.2,hk_.1.1.2,hk_.1.2⟩));have n5_:=Aside0.mk (Kd.R_mono (ok':=fun k_=>some k_ ≠ (.slice Ao24 t326.length co24:Value).ownBlock ∧ some k_ ≠ (.slice Ao27 t329.length co27:Value).ownBlock ∧ some k_ ≠ (.slice Ao31 t334.length co31:Value).ownBlock ∧ some k_ ≠ (.slice Ao35 t337.length co35:Value).ownBlock ∧ some k_ ≠ (.slice Ao38 t341.length co38:Value).ownBlock ∧ some k_ ≠ (.slice Ao70 t350.length co70:Value).ownBlock ∧ some k_ ≠ (.slice Ao71 t353.length co71:Value).ownBlock) (Kd.R_keptB (HO_349001.out) hkp (fun k_ hk_ hs_=>Or.elim hs_ (fun e_=>(hk_.1.1.2.2.1) e_) (fun e_=>(hk_.1.1.2.2.2.1) e_))) (fun k_ hk_=>⟨hk_.1.1.1.1,hk_.1.1.1.2.1,hk_.1.1.1.2.2.1,hk_.1.1.1.2.2.2.1,hk_.1.1.1.2.2.2.2,hk_.1.1.2,hk_.1.2⟩));have n6_:=Aside0.mk (blk_kept (by (with_reducible repeat (refine blk_alloc ?_ _));exact BK318.out) hkp (fun hs_=>Or.elim hs_ (fun e_=>(fun e_=>(Kd.R_ne HO_341000.out BK318.out (by decide)) e_) e_) (fun e_=>(fun e_=>(Kd.R_ne HO_341001.out BK318.out (by decide)) e_) e_)));have n7_:=Aside0.mk (blk_kept (by (with_reducible repeat (refine blk_alloc ?_ _));exact BK333.out) hkp (fun hs_=>Or.elim hs_ (fun e_=>(fun e_=>(Kd.R_ne HO_341000.out BK333.out (by decide)) e_) e_) (fun e_=>(fun e_=>(Kd.R_ne HO_341001.out BK333.out (by decide)) e_) e_)));have n8_:=Aside0.mk (blk_kept (by (with_reducible repeat (refine blk_alloc ?_ _));exact BK340.out) hkp (fun hs_=>Or.elim hs_ (fun e_=>(fun e_=>(Kd.R_ne HO_341000.out BK340.out (by decide)) e_) e_) (fun e_=>(fun e_=>(Kd.R_ne HO_341001.out BK340.out (by decide)) e_) e_)));have n9_:=Aside0.mk (blk_kept (by (with_reducible repeat (refine blk_alloc ?_ _));exact BK348.out) hkp (fun hs_=>Or.elim hs_ (fun e_=>(fun e_=>(Kd.R_ne HO_341000.out BK348.out (by decide)) e_) e_) (fun e_=>(fun e_=>(Kd.R_ne HO_341001.out BK348.out (by decide)) e_) e_)));have n10_:=Aside0.mk (Kd.R_mono (ok':=fun k_=>some k_ ≠ (.slice Ao24 t326.length co24:Value).ownBlock ∧ some k_ ≠ (.slice Ao27 t329.length co27:Value).ownBlock ∧ some k_ ≠ (.slice Ao31 t334.length co31:Value).ownBlock ∧ some k_ ≠ (.slice Ao35 t337.length co35:Value).ownBlock ∧ some k_ ≠ (.slice Ao38 t341.length co38:Value).ownBlock ∧ some k_ ≠ (.slice Ao43 t344.length co43:Value).ownBlock ∧ some k_ ≠ (.slice Ao71 t353.length co71:Value).ownBlock) (Kd.R_keptB (HO352.out) hkp (fun k_ hk_ hs_=>Or.elim hs_ (fun e_=>(hk_.1.1.1.2) e_) (fun e_=>(hk_.1.1.2) e_))) (fun k_ hk_=>⟨hk_.1.1.1.1.1.1.2,hk_.1.1.1.1.1.2,hk_.1.1.1.1.2,hk_.1.1.1.2,hk_.1.1.2,hk_.1.2,hk_.1.1.1.1.1.1.1⟩));have n11_:=Aside0.mk (Kd.R_mono (ok':=fun k_=>some k_ ≠ (.slice Ao24 t326.length co24:Value).ownBlock ∧ some k_ ≠ (.slice Ao27 t329.length co27:Value).ownBlock ∧ some k_ ≠ (.slice Ao31 t334.length co31:Value).ownBlock ∧ some k_ ≠ (.slice Ao35 t337.length co35:Value).ownBlock ∧ some k_ ≠ (.slice Ao38 t341.length co38:Value).ownBlock ∧ some k_ ≠ (.slice Ao43 t344.length co43:Value).ownBlock ∧ some k_ ≠ (.slice Ao70 t350.length co70:Value).ownBlock) (Kd.R_keptB (HO355.out) hkp (fun k_ hk_ hs_=>Or.elim hs_ (fun e_=>(hk_.1.1.1.2) e_) (fun e_=>(hk_.1.1.2) e_))) (fun k_ hk_=>⟨hk_.1.1.1.1.1.1.2,hk_.1.1.1.1.1.2,hk_.1.1.1.1.2,hk_.1.1.1.2,hk_.1.1.2,hk_.1.2,hk_.1.1.1.1.1.1.1⟩));have n12_:=Aside0.mk (hb);clear HO_334000;clear HO_334001;clear HO_341000;clear HO_341001;clear HO_349000;clear HO_349001;clear BK318;clear BK333;clear BK340;clear BK348;clear HO352;clear HO355;clear HB;have HO_334000:=n0_;have HO_334001:=n1_;have HO_341000:=n2_;have HO_341001:=n3_;have HO_349000:=n4_;have HO_349001:=n5_;have BK318:=n6_;have BK333:=n7_;have BK340:=n8_;have BK348:=n9_;have HO352:=n10_;have HO355:=n11_;have HB:=n12_;clear n0_ n1_ n2_ n3_ n4_ n5_ n6_ n7_ n8_ n9_ n10_ n11_ n12_;(try clear hb);(try clear hkp);(try clear hy0);(try clear hy1)))
       (try simp only [Act.put,List.setIfInBounds_toArray,List.set_cons_zero,List.set_cons_succ])
       go_cut [68] (fun v68 wc=>∃ (kq:Nat) (x68_66:Bool),v68 = .bool x68_66 ∧ Aside0 (laws_FnExactPutText.j1 kq a1 t332 x68_66 l0_0 l0_1 t326 t329 t341 t344 = some r) ∧ Aside0 (kq ≤ kj13) ∧ Aside0 (Kd.R Kd.string 9 wc w.heap.size (fun k_=>some k_ ≠ ((.slice Ao27 t329.length co27):Value).ownBlock ∧ some k_ ≠ ((.slice Ao31 t334.length co31):Value).ownBlock ∧ some k_ ≠ ((.slice Ao35 t337.length co35):Value).ownBlock ∧ some k_ ≠ ((.slice Ao38 t341.length co38):Value).ownBlock ∧ some k_ ≠ ((.slice Ao43 t344.length co43):Value).ownBlock) (.slice Ao24 t326.length co24) t326) ∧ Aside0 (Kd.R Kd.string 9 wc w.heap.size (fun k_=>some k_ ≠ ((.slice Ao24 t326.length co24):Value).ownBlock ∧ some k_ ≠ ((.slice Ao31 t334.length co31):Value).ownBlock ∧ some k_ ≠ ((.slice Ao35 t337.length co35):Value).ownBlock ∧ some k_ ≠ ((.slice Ao38 t341.length co38):Value).ownBlock ∧ some k_ ≠ ((.slice Ao43 t344.length co43):Value).ownBlock) (.slice Ao27 t329.length co27) t329) ∧ Aside0 (Kd.R Kd.string 9 wc w.heap.size (fun k_=>some k_ ≠ ((.slice Ao24 t326.length co24):Value).ownBlock ∧ some k_ ≠ ((.slice Ao27 t329.length co27):Value).ownBlock ∧ some k_ ≠ ((.slice Ao35 t337.length co35):Value).ownBlock ∧ some k_ ≠ ((.slice Ao38 t341.length co38):Value).ownBlock ∧ some k_ ≠ ((.slice Ao43 t344.length co43):Value).ownBlock) (.slice Ao31 t334.length co31) t358) ∧ Aside0 (Kd.R Kd.string 9 wc w.heap.size (fun k_=>some k_ ≠ ((.slice Ao24 t326.length co24):Value).ownBlock ∧ some k_ ≠ ((.slice Ao27 t329.length co27):Value).ownBlock ∧ some k_ ≠ ((.slice Ao31 t334.length co31):Value).ownBlock ∧ some k_ ≠ ((.slice Ao38 t341.length co38):Value).ownBlock ∧ some k_ ≠ ((.slice Ao43 t344.length co43):Value).ownBlock) (.slice Ao35 t337.length co35) t359) ∧ Aside0 (Kd.R Kd.string 9 wc w.heap.size (fun k_=>some k_ ≠ ((.slice Ao24 t326.length co24):Value).ownBlock ∧ some k_ ≠ ((.slice Ao27 t329.length co27):Value).ownBlock ∧ some k_ ≠ ((.slice Ao31 t334.length co31):Value).ownBlock ∧ some k_ ≠ ((.slice Ao35 t337.length co35):Value).ownBlock ∧ some k_ ≠ ((.slice Ao43 t344.length co43):Value).ownBlock) (.slice Ao38 t341.length co38) t341) ∧ Aside0 (Kd.R Kd.string 9 wc w.heap.size (fun k_=>some k_ ≠ ((.slice Ao24 t326.length co24):Value).ownBlock ∧ some k_ ≠ ((.slice Ao27 t329.length co27):Value).ownBlock ∧ some k_ ≠ ((.slice Ao31 t334.length co31):Value).ownBlock ∧ some k_ ≠ ((.slice Ao35 t337.length co35):Value).ownBlock ∧ some k_ ≠ ((.slice Ao38 t341.length co38):Value).ownBlock) (.slice Ao43 t344.length co43) t344) ∧ Aside0 (wc.heap[gb318]? = some (.cells #[(.slice A0_0 l0_0.length c0_0),(.slice A0_1 l0_1.length c0_1)] 30 (0,0))) ∧ Aside0 (wc.heap[gb333]? = some (.cells #[(.slice Ao24 t326.length co24),(.slice Ao27 t329.length co27)] 34 (0,0))) ∧ Aside0 (wc.heap[gb340]? = some (.cells #[(.slice Ao31 t334.length co31),(.slice Ao35 t337.length co35)] 34 (0,0))) ∧ Aside0 (wc.heap[gb348]? = some (.cells #[(.slice Ao38 t341.length co38),(.slice Ao43 t344.length co43)] 34 (0,0))) ∧ Aside0 (Below w.heap.size w wc))
       case first =>
        have H:=HC67.out
        clear HC67
        by_cases c78:t357 < 0
        ·rw [if_pos c78] at H
         have c78b0:decide (t357 < 0) = true:=decide_eq_true c78
         clear c78
         (first|rw [c78b0]|(simp only [i64_w,i32_w];rw [c78b0])|skip)
         have H':=Aside0.mk H
         clear H
         go_wp2
         go_meet
         case rel=>exact ⟨_,(true),(by first|rfl|(simp;done)|(simp [*];done)),H',⟨by have:=HJ13.out;first|omega|exact Nat.le_refl _⟩,⟨by (with_reducible repeat (first|apply Kd.R_alloc));exact Kd.R_mono HO_334000.out (fun _ hk=>⟨hk.1,⟨hk.2.1,⟨hk.2.2.1,⟨hk.2.2.2.1,hk.2.2.2.2.1⟩⟩⟩⟩)⟩,⟨by (with_reducible repeat (first|apply Kd.R_alloc));exact Kd.R_mono HO_334001.out (fun _ hk=>⟨hk.1,⟨hk.2.1,⟨hk.2.2.1,⟨hk.2.2.2.1,hk.2.2.2.2.1⟩⟩⟩⟩)⟩,⟨by (with_reducible repeat (first|apply Kd.R_alloc));exact Kd.R_mono HO_341000.out (fun _ hk=>⟨hk.1.1.1,⟨hk.1.1.2.1,⟨hk.1.1.2.2.1,⟨hk.1.1.2.2.2.1,hk.1.1.2.2.2.2⟩⟩⟩⟩)⟩,⟨by (with_reducible repeat (first|apply Kd.R_alloc));exact Kd.R_mono HO_341001.out (fun _ hk=>⟨hk.1.1.1,⟨hk.1.1.2.1,⟨hk.1.1.2.2.1,⟨hk.1.1.2.2.2.1,hk.1.1.2.2.2.2⟩⟩⟩⟩)⟩,⟨by (with_reducible repeat (first|apply Kd.R_alloc));exact Kd.R_mono HO_349000.out (fun _ hk=>⟨hk.1,⟨hk.2.1,⟨hk.2.2.1,⟨hk.2.2.2.1,hk.2.2.2.2.1⟩⟩⟩⟩)⟩,⟨by (with_reducible repeat (first|apply Kd.R_alloc));exact Kd.R_mono HO_349001.out (fun _ hk=>⟨hk.1,⟨hk.2.1,⟨hk.2.2.1,⟨hk.2.2.2.1,hk.2.2.2.2.1⟩⟩⟩⟩)⟩,⟨by (with_reducible repeat (refine blk_alloc ?_ _));exact BK318.out⟩,⟨by (with_reducible repeat (refine blk_alloc ?_ _));exact BK333.out⟩,⟨by (with_reducible repeat (refine blk_alloc ?_ _));exact BK340.out⟩,⟨by (with_reducible repeat (refine blk_alloc ?_ _));exact BK348.out⟩,⟨by repeat (first|(with_reducible first|exact HB.out|apply below_alloc|refine below_set ?_ GE318.out|refine below_set ?_ GE333.out|refine below_set ?_ GE340.out|refine below_set ?_ GE348.out)|exact HB.out)⟩⟩
        ·rw [if_neg c78] at H
         have c78b0:decide (t357 < 0) = false:=decide_eq_false c78
         clear c78
         (first|rw [c78b0]|(simp only [i64_w,i32_w];rw [c78b0])|skip)
         replace H:=Option.bind_eq_some_iff.mp H
         obtain ⟨t360,A790,H⟩:=H
         replace H:(if t360 = true then (laws_FnExactPutText.j1 kj13 a1 t332 (t347 != t332) l0_0 l0_1 t326 t329 t341 t344) else (laws_FnExactPutText.j1 kj13 a1 t332 true l0_0 l0_1 t326 t329 t341 t344)) = some r:=H
         have A79:=Aside0.mk A790
         clear A790
         by_cases c80:t360 = true
         ·subst c80
          have H1:(laws_FnExactPutText.j1 kj13 a1 t332 (t347 != t332) l0_0 l0_1 t326 t329 t341 t344) = some r:=by rw [if_pos rfl] at H;exact H
          clear H
          have H:=H1
          clear H1
          have H':=Aside0.mk H
          clear H
          have hnb81:=NB348_318.out
          have hnc81:=NB318_348.out
          have hnb82:=NB348_333.out
          have hnc82:=NB333_348.out
          have hnb83:=NB348_340.out
          have hnc83:=NB340_348.out
          have hcz84_0:w77.cell? ⟨gb348,0,none⟩ = some (.slice Ao38 t341.length co38):=(blk_cell BK348.out 0).trans rfl
          have hcz84_1:w77.cell? ⟨gb348,1,none⟩ = some (.slice Ao43 t344.length co43):=(blk_cell BK348.out 1).trans rfl
          have hfz84_0:=blk_frozen BK348.out 0
          have hfz84_1:=blk_frozen BK348.out 1
          have hnb85:=NB333_318.out
          have hnc85:=NB318_333.out
          have hnb86:=NB333_340.out
          have hnc86:=NB340_333.out
          have hcz87_0:w77.cell? ⟨gb333,0,none⟩ = some (.slice Ao24 t326.length co24):=(blk_cell BK333.out 0).trans rfl
          have hcz87_1:w77.cell? ⟨gb333,1,none⟩ = some (.slice Ao27 t329.length co27):=(blk_cell BK333.out 1).trans rfl
          have hfz87_0:=blk_frozen BK333.out 0
          have hfz87_1:=blk_frozen BK333.out 1
          go_wp2_with (first|(go_at_call 18;(with_reducible refine (laws_eqDisk.calls kj13 _ _ t341 _ _ t344 _ _ t326 _ _ t329 true _ ?side1 ?side2 ?side3 ?side4 ?side5 ?side6 ?side7 ?side8 A79.out).mono ?_);(case side1=>repeat (first|exact (Kd.R_reads' HO_349000.out).2.2|(with_reducible refine Kd.C_alloc ?_ _)));(case side2=>exact (Kd.R_reads' HO_349000.out).2.1);(case side3=>repeat (first|exact (Kd.R_reads' HO_349001.out).2.2|(with_reducible refine Kd.C_alloc ?_ _)));(case side4=>exact (Kd.R_reads' HO_349001.out).2.1);(case side5=>repeat (first|exact (Kd.R_reads' HO_334000.out).2.2|(with_reducible refine Kd.C_alloc ?_ _)));(case side6=>exact (Kd.R_reads' HO_334000.out).2.1);(case side7=>repeat (first|exact (Kd.R_reads' HO_334001.out).2.2|(with_reducible refine Kd.C_alloc ?_ _)));(case side8=>exact (Kd.R_reads' HO_334001.out).2.1);rintro e w88 ⟨rfl,hb⟩;have n0_:=Aside0.mk (Kd.R_below (by (with_reducible repeat (first|apply Kd.R_alloc));exact HO_334000.out) hb);have n1_:=Aside0.mk (Kd.R_below (by (with_reducible repeat (first|apply Kd.R_alloc));exact HO_334001.out) hb);have n2_:=Aside0.mk (Kd.R_below (by (with_reducible repeat (first|apply Kd.R_alloc));exact HO_341000.out) hb);have n3_:=Aside0.mk (Kd.R_below (by (with_reducible repeat (first|apply Kd.R_alloc));exact HO_341001.out) hb);have n4_:=Aside0.mk (Kd.R_below (by (with_reducible repeat (first|apply Kd.R_alloc));exact HO_349000.out) hb);have n5_:=Aside0.mk (Kd.R_below (by (with_reducible repeat (first|apply Kd.R_alloc));exact HO_349001.out) hb);have n6_:=Aside0.mk (Kd.R_below (by (with_reducible repeat (first|apply Kd.R_alloc));exact HO352.out) hb);have n7_:=Aside0.mk (Kd.R_below (by (with_reducible repeat (first|apply Kd.R_alloc));exact HO355.out) hb);have n8_:=Aside0.mk (blk_below (g:=gb318) (o:=.cells #[.slice A0_0 l0_0.length c0_0,.slice A0_1 l0_1.length c0_1] 30 (0,0)) (by (with_reducible repeat (refine blk_alloc ?_ _));exact BK318.out) hb);have n9_:=Aside0.mk (blk_below (g:=gb333) (o:=.cells #[.slice Ao24 t326.length co24,.slice Ao27 t329.length co27] 34 (0,0)) (by (with_reducible repeat (refine blk_alloc ?_ _));exact BK333.out) hb);have n10_:=Aside0.mk (blk_below (g:=gb340) (o:=.cells #[.slice Ao31 t334.length co31,.slice Ao35 t337.length co35] 34 (0,0)) (by (with_reducible repeat (refine blk_alloc ?_ _));exact BK340.out) hb);have n11_:=Aside0.mk (blk_below (g:=gb348) (o:=.cells #[.slice Ao38 t341.length co38,.slice Ao43 t344.length co43] 34 (0,0)) (by (with_reducible repeat (refine blk_alloc ?_ _));exact BK348.out) hb);have n12_:=Aside0.mk (below_step (by repeat (first|(with_reducible first|exact HB.out|apply below_alloc|refine below_set ?_ GE318.out|refine below_set ?_ GE333.out|refine below_set ?_ GE340.out|refine below_set ?_ GE348.out)|exact HB.out)) hb);clear HO_334000;clear HO_334001;clear HO_341000;clear HO_341001;clear HO_349000;clear HO_349001;clear HO352;clear HO355;clear BK318;clear BK333;clear BK340;clear BK348;clear HB;have HO_334000:=n0_;have HO_334001:=n1_;have HO_341000:=n2_;have HO_341001:=n3_;have HO_349000:=n4_;have HO_349001:=n5_;have HO352:=n6_;have HO355:=n7_;have BK318:=n8_;have BK333:=n9_;have BK340:=n10_;have BK348:=n11_;have HB:=n12_;clear n0_ n1_ n2_ n3_ n4_ n5_ n6_ n7_ n8_ n9_ n10_ n11_ n12_;(try clear hb);(try clear hb2);(try clear hk);(try clear hi)))
          go_meet
          case rel=>exact ⟨_,((t347 != t332)),(by first|rfl|(simp;done)|(simp [*];done)),H',⟨by have:=HJ13.out;first|omega|exact Nat.le_refl _⟩,⟨by (with_reducible repeat (first|apply Kd.R_alloc));exact Kd.R_mono HO_334000.out (fun _ hk=>⟨hk.1,⟨hk.2.1,⟨hk.2.2.1,⟨hk.2.2.2.1,hk.2.2.2.2.1⟩⟩⟩⟩)⟩,⟨by (with_reducible repeat (first|apply Kd.R_alloc));exact Kd.R_mono HO_334001.out (fun _ hk=>⟨hk.1,⟨hk.2.1,⟨hk.2.2.1,⟨hk.2.2.2.1,hk.2.2.2.2.1⟩⟩⟩⟩)⟩,⟨by (with_reducible repeat (first|apply Kd.R_alloc));exact Kd.R_mono HO_341000.out (fun _ hk=>⟨hk.1.1.1,⟨hk.1.1.2.1,⟨hk.1.1.2.2.1,⟨hk.1.1.2.2.2.1,hk.1.1.2.2.2.2⟩⟩⟩⟩)⟩,⟨by (with_reducible repeat (first|apply Kd.R_alloc));exact Kd.R_mono HO_341001.out (fun _ hk=>⟨hk.1.1.1,⟨hk.1.1.2.1,⟨hk.1.1.2.2.1,⟨hk.1.1.2.2.2.1,hk.1.1.2.2.2.2⟩⟩⟩⟩)⟩,⟨by (with_reducible repeat (first|apply Kd.R_alloc));exact Kd.R_mono HO_349000.out (fun _ hk=>⟨hk.1,⟨hk.2.1,⟨hk.2.2.1,⟨hk.2.2.2.1,hk.2.2.2.2.1⟩⟩⟩⟩)⟩,⟨by (with_reducible repeat (first|apply Kd.R_alloc));exact Kd.R_mono HO_349001.out (fun _ hk=>⟨hk.1,⟨hk.2.1,⟨hk.2.2.1,⟨hk.2.2.2.1,hk.2.2.2.2.1⟩⟩⟩⟩)⟩,⟨by (with_reducible repeat (refine blk_alloc ?_ _));exact BK318.out⟩,⟨by (with_reducible repeat (refine blk_alloc ?_ _));exact BK333.out⟩,⟨by (with_reducible repeat (refine blk_alloc ?_ _));exact BK340.out⟩,⟨by (with_reducible repeat (refine blk_alloc ?_ _));exact BK348.out⟩,⟨by repeat (first|(with_reducible first|exact HB.out|apply below_alloc|refine below_set ?_ GE318.out|refine below_set ?_ GE333.out|refine below_set ?_ GE340.out|refine below_set ?_ GE348.out)|exact HB.out)⟩⟩
         ·replace c80:=Bool.eq_false_iff.mpr c80
          subst c80
          have H1:(laws_FnExactPutText.j1 kj13 a1 t332 true l0_0 l0_1 t326 t329 t341 t344) = some r:=by rw [if_neg (show ¬ (false = true) by decide)] at H;exact H
          clear H
          have H:=H1
          clear H1
          have H':=Aside0.mk H
          clear H
          have hnb89:=NB348_318.out
          have hnc89:=NB318_348.out
          have hnb90:=NB348_333.out
          have hnc90:=NB333_348.out
          have hnb91:=NB348_340.out
          have hnc91:=NB340_348.out
          have hcz92_0:w77.cell? ⟨gb348,0,none⟩ = some (.slice Ao38 t341.length co38):=(blk_cell BK348.out 0).trans rfl
          have hcz92_1:w77.cell? ⟨gb348,1,none⟩ = some (.slice Ao43 t344.length co43):=(blk_cell BK348.out 1).trans rfl
          have hfz92_0:=blk_frozen BK348.out 0
          have hfz92_1:=blk_frozen BK348.out 1
          have hnb93:=NB333_318.out
          have hnc93:=NB318_333.out
          have hnb94:=NB333_340.out
          have hnc94:=NB340_333.out
          have hcz95_0:w77.cell? ⟨gb333,0,none⟩ = some (.slice Ao24 t326.length co24):=(blk_cell BK333.out 0).trans rfl
          have hcz95_1:w77.cell? ⟨gb333,1,none⟩ = some (.slice Ao27 t329.length co27):=(blk_cell BK333.out 1).trans rfl
          have hfz95_0:=blk_frozen BK333.out 0
          have hfz95_1:=blk_frozen BK333.out 1
          go_wp2_with (first|(go_at_call 18;(with_reducible refine (laws_eqDisk.calls kj13 _ _ t341 _ _ t344 _ _ t326 _ _ t329 false _ ?side1 ?side2 ?side3 ?side4 ?side5 ?side6 ?side7 ?side8 A79.out).mono ?_);(case side1=>repeat (first|exact (Kd.R_reads' HO_349000.out).2.2|(with_reducible refine Kd.C_alloc ?_ _)));(case side2=>exact (Kd.R_reads' HO_349000.out).2.1);(case side3=>repeat (first|exact (Kd.R_reads' HO_349001.out).2.2|(with_reducible refine Kd.C_alloc ?_ _)));(case side4=>exact (Kd.R_reads' HO_349001.out).2.1);(case side5=>repeat (first|exact (Kd.R_reads' HO_334000.out).2.2|(with_reducible refine Kd.C_alloc ?_ _)));(case side6=>exact (Kd.R_reads' HO_334000.out).2.1);(case side7=>repeat (first|exact (Kd.R_reads' HO_334001.out).2.2|(with_reducible refine Kd.C_alloc ?_ _)));(case side8=>exact (Kd.R_reads' HO_334001.out).2.1);rintro e w96 ⟨rfl,hb⟩;have n0_:=Aside0.mk (Kd.R_below (by (with_reducible repeat (first|apply Kd.R_alloc));exact HO_334000.out) hb);have n1_:=Aside0.mk (Kd.R_below (by (with_reducible repeat (first|apply Kd.R_alloc));exact HO_334001.out) hb);have n2_:=Aside0.mk (Kd.R_below (by (with_reducible repeat (first|apply Kd.R_alloc));exact HO_341000.out) hb);have n3_:=Aside0.mk (Kd.R_below (by (with_reducible repeat (first|apply Kd.R_alloc));exact HO_341001.out) hb);have n4_:=Aside0.mk (Kd.R_below (by (with_reducible repeat (first|apply Kd.R_alloc));exact HO_349000.out) hb);have n5_:=Aside0.mk (Kd.R_below (by (with_reducible repeat (first|apply Kd.R_alloc));exact HO_349001.out) hb);have n6_:=Aside0.mk (Kd.R_below (by (with_reducible repeat (first|apply Kd.R_alloc));exact HO352.out) hb);have n7_:=Aside0.mk (Kd.R_below (by (with_reducible repeat (first|apply Kd.R_alloc));exact HO355.out) hb);have n8_:=Aside0.mk (blk_below (g:=gb318) (o:=.cells #[.slice A0_0 l0_0.length c0_0,.slice A0_1 l0_1.length c0_1] 30 (0,0)) (by (with_reducible repeat (refine blk_alloc ?_ _));exact BK318.out) hb);have n9_:=Aside0.mk (blk_below (g:=gb333) (o:=.cells #[.slice Ao24 t326.length co24,.slice Ao27 t329.length co27] 34 (0,0)) (by (with_reducible repeat (refine blk_alloc ?_ _));exact BK333.out) hb);have n10_:=Aside0.mk (blk_below (g:=gb340) (o:=.cells #[.slice Ao31 t334.length co31,.slice Ao35 t337.length co35] 34 (0,0)) (by (with_reducible repeat (refine blk_alloc ?_ _));exact BK340.out) hb);have n11_:=Aside0.mk (blk_below (g:=gb348) (o:=.cells #[.slice Ao38 t341.length co38,.slice Ao43 t344.length co43] 34 (0,0)) (by (with_reducible repeat (refine blk_alloc ?_ _));exact BK348.out) hb);have n12_:=Aside0.mk (below_step (by repeat (first|(with_reducible first|exact HB.out|apply below_alloc|refine below_set ?_ GE318.out|refine below_set ?_ GE333.out|refine below_set ?_ GE340.out|refine below_set ?_ GE348.out)|exact HB.out)) hb);clear HO_334000;clear HO_334001;clear HO_341000;clear HO_341001;clear HO_349000;clear HO_349001;clear HO352;clear HO355;clear BK318;clear BK333;clear BK340;clear BK348;clear HB;have HO_334000:=n0_;have HO_334001:=n1_;have HO_341000:=n2_;have HO_341001:=n3_;have HO_349000:=n4_;have HO_349001:=n5_;have HO352:=n6_;have HO355:=n7_;have BK318:=n8_;have BK333:=n9_;have BK340:=n10_;have BK348:=n11_;have HB:=n12_;clear n0_ n1_ n2_ n3_ n4_ n5_ n6_ n7_ n8_ n9_ n10_ n11_ n12_;(try clear hb);(try clear hb2);(try clear hk);(try clear hi)))
          go_meet
          case rel=>exact ⟨_,(true),(by first|rfl|(simp;done)|(simp [*];done)),H',⟨by have:=HJ13.out;first|omega|exact Nat.le_refl _⟩,⟨by (with_reducible repeat (first|apply Kd.R_alloc));exact Kd.R_mono HO_334000.out (fun _ hk=>⟨hk.1,⟨hk.2.1,⟨hk.2.2.1,⟨hk.2.2.2.1,hk.2.2.2.2.1⟩⟩⟩⟩)⟩,⟨by (with_reducible repeat (first|apply Kd.R_alloc));exact Kd.R_mono HO_334001.out (fun _ hk=>⟨hk.1,⟨hk.2.1,⟨hk.2.2.1,⟨hk.2.2.2.1,hk.2.2.2.2.1⟩⟩⟩⟩)⟩,⟨by (with_reducible repeat (first|apply Kd.R_alloc));exact Kd.R_mono HO_341000.out (fun _ hk=>⟨hk.1.1.1,⟨hk.1.1.2.1,⟨hk.1.1.2.2.1,⟨hk.1.1.2.2.2.1,hk.1.1.2.2.2.2⟩⟩⟩⟩)⟩,⟨by (with_reducible repeat (first|apply Kd.R_alloc));exact Kd.R_mono HO_341001.out (fun _ hk=>⟨hk.1.1.1,⟨hk.1.1.2.1,⟨hk.1.1.2.2.1,⟨hk.1.1.2.2.2.1,hk.1.1.2.2.2.2⟩⟩⟩⟩)⟩,⟨by (with_reducible repeat (first|apply Kd.R_alloc));exact Kd.R_mono HO_349000.out (fun _ hk=>⟨hk.1,⟨hk.2.1,⟨hk.2.2.1,⟨hk.2.2.2.1,hk.2.2.2.2.1⟩⟩⟩⟩)⟩,⟨by (with_reducible repeat (first|apply Kd.R_alloc));exact Kd.R_mono HO_349001.out (fun _ hk=>⟨hk.1,⟨hk.2.1,⟨hk.2.2.1,⟨hk.2.2.2.1,hk.2.2.2.2.1⟩⟩⟩⟩)⟩,⟨by (with_reducible repeat (refine blk_alloc ?_ _));exact BK318.out⟩,⟨by (with_reducible repeat (refine blk_alloc ?_ _));exact BK333.out⟩,⟨by (with_reducible repeat (refine blk_alloc ?_ _));exact BK340.out⟩,⟨by (with_reducible repeat (refine blk_alloc ?_ _));exact BK348.out⟩,⟨by repeat (first|(with_reducible first|exact HB.out|apply below_alloc|refine below_set ?_ GE318.out|refine below_set ?_ GE333.out|refine below_set ?_ GE340.out|refine below_set ?_ GE348.out)|exact HB.out)⟩⟩
       case rest =>
        clear HC67
        try clear c1
        try clear c2
        try clear p2
        try clear c3
        try clear c3b0
        try clear c3b1
        try clear c4
        try clear c5
        try clear c6
        try clear c6b0
        try clear c7
        try clear c8
        try clear c9
        try clear c13
        try clear c15
        try clear c18
        try clear c19
        try clear c25
        try clear c26
        try clear c32
        try clear c33
        try clear c39
        try clear c40
        try clear c41
        try clear c45
        try clear c46
        try clear c47
        try clear c48
        try clear c50
        try clear c51
        try clear c54
        try clear c55
        try clear c56
        try clear c58
        try clear c59
        try clear c62
        try clear c65
        try clear c73
        try clear c74
        try clear c75
        try clear c78
        try clear c78b0
        try clear c80
        try clear c81
        try clear c82
        try clear c83
        try clear c85
        try clear c86
        try clear c89
        try clear c90
        try clear c91
        try clear c93
        try clear c94
        try clear hcz16_0
        try clear hcz16_1
        try clear hcz18_0
        try clear hcz18_1
        try clear hcz26_0
        try clear hcz26_1
        try clear hcz28_0
        try clear hcz28_1
        try clear hcz34_0
        try clear hcz34_1
        try clear hcz42_0
        try clear hcz42_1
        try clear hcz49_0
        try clear hcz49_1
        try clear hcz52_0
        try clear hcz52_1
        try clear hcz57_0
        try clear hcz57_1
        try clear hcz60_0
        try clear hcz60_1
        try clear hcz76_0
        try clear hcz76_1
        try clear hcz84_0
        try clear hcz84_1
        try clear hcz87_0
        try clear hcz87_1
        try clear hcz8_0
        try clear hcz8_1
        try clear hcz92_0
        try clear hcz92_1
        try clear hcz95_0
        try clear hcz95_1
        try clear hfz16_0
        try clear hfz16_1
        try clear hfz18_0
        try clear hfz18_1
        try clear hfz26_0
        try clear hfz26_1
        try clear hfz28_0
        try clear hfz28_1
        try clear hfz34_0
        try clear hfz34_1
        try clear hfz42_0
        try clear hfz42_1
        try clear hfz49_0
        try clear hfz49_1
        try clear hfz52_0
        try clear hfz52_1
        try clear hfz57_0
        try clear hfz57_1
        try clear hfz60_0
        try clear hfz60_1
        try clear hfz76_0
        try clear hfz76_1
        try clear hfz84_0
        try clear hfz84_1
        try clear hfz87_0
        try clear hfz87_1
        try clear hfz8_0
        try clear hfz8_1
        try clear hfz92_0
        try clear hfz92_1
        try clear hfz95_0
        try clear hfz95_1
        try clear p2
        obtain ⟨kq,x68_66,rfl,HA,HJ66,HO_334000,HO_334001,HO_341000,HO_341001,HO_349000,HO_349001,BK318,BK333,BK340,BK348,HB⟩:=hcut
        have hl341000_66:=(Kd.R_reads' HO_341000.out).1
        rw [hl341000_66] at HO_341000
        (try simp only [hl341000_66])
        (try simp only [hl341000_66] at BK318)
        (try simp only [hl341000_66] at BK333)
        (try simp only [hl341000_66] at BK340)
        (try simp only [hl341000_66] at BK348)
        (try simp only [hl341000_66] at HO_334000)
        (try simp only [hl341000_66] at HO_334001)
        (try simp only [hl341000_66] at HO_341001)
        (try simp only [hl341000_66] at HO_349000)
        (try simp only [hl341000_66] at HO_349001)
        have hl341001_66:=(Kd.R_reads' HO_341001.out).1
        rw [hl341001_66] at HO_341001
        (try simp only [hl341001_66])
        (try simp only [hl341001_66] at BK318)
        (try simp only [hl341001_66] at BK333)
        (try simp only [hl341001_66] at BK340)
        (try simp only [hl341001_66] at BK348)
        (try simp only [hl341001_66] at HO_334000)
        (try simp only [hl341001_66] at HO_334001)
        (try simp only [hl341001_66] at HO_341000)
        (try simp only [hl341001_66] at HO_349000)
        (try simp only [hl341001_66] at HO_349001)
        cases kq with
        | zero=>exact absurd HA.out (by simp [laws_FnExactPutText.j1])
        | succ kj66 =>
         have H:=HA.out
         clear HA
         simp only [laws_FnExactPutText.j1] at H
         by_cases c97:x68_66 = true
         ·subst c97
          have H1:(some false) = some r:=by rw [if_pos rfl] at H;exact H
          clear H
          have H:=H1
          clear H1
          obtain rfl:=Option.some.inj H
          go_wp2
          go_ret
          exact ⟨by first|rfl|(simp [errW_none,errW_some] <;> rfl)|(simp [*,errW_none,errW_some] <;> rfl),by repeat (first|(with_reducible first|exact HB.out|apply below_alloc|refine below_set ?_ GE318.out|refine below_set ?_ GE333.out|refine below_set ?_ GE340.out|refine below_set ?_ GE348.out)|exact HB.out)⟩
         ·replace c97:=Bool.eq_false_iff.mpr c97
          subst c97
          have H1:((laws_markDisk.f kj66 t341 t344 1).bind fun bt361=>((laws_heldDisk.f kj66 bt361.2.1 bt361.2.2 1).bind fun t364=>(if t364 < 0 then (some false) else (if t364 = bt361.1 then ((laws_toDisk.f kj66 l0_0 l0_1).bind fun bt365=>((impl_PutText.f kj66 bt365.1 bt365.2 a1).bind fun bt371=>((laws_eqDisk.f kj66 bt371.1 bt371.2.1 t326 t329).bind fun t379=>(if t379 = true then (laws_FnExactPutText.j2 kj66 bt361.1 (bt371.2.2 != t332) bt361.2.1 bt361.2.2) else (laws_FnExactPutText.j2 kj66 bt361.1 true bt361.2.1 bt361.2.2))))) else (some false))))) = some r:=by rw [if_neg (show ¬ (false = true) by decide)] at H;exact H
          clear H
          have H:=H1
          clear H1
          replace H:=Option.bind_eq_some_iff.mp H
          obtain ⟨⟨t361,t362,t363⟩,A980,H⟩:=H
          replace H:((laws_heldDisk.f kj66 t362 t363 1).bind fun t364=>(if t364 < 0 then (some false) else (if t364 = t361 then ((laws_toDisk.f kj66 l0_0 l0_1).bind fun bt365=>((impl_PutText.f kj66 bt365.1 bt365.2 a1).bind fun bt371=>((laws_eqDisk.f kj66 bt371.1 bt371.2.1 t326 t329).bind fun t379=>(if t379 = true then (laws_FnExactPutText.j2 kj66 t361 (bt371.2.2 != t332) t362 t363) else (laws_FnExactPutText.j2 kj66 t361 true t362 t363))))) else (some false)))) = some r:=H
          have A98:=Aside0.mk A980
          clear A980
          replace H:=Option.bind_eq_some_iff.mp H
          obtain ⟨t364,A990,H⟩:=H
          replace H:(if t364 < 0 then (some false) else (if t364 = t361 then ((laws_toDisk.f kj66 l0_0 l0_1).bind fun bt365=>((impl_PutText.f kj66 bt365.1 bt365.2 a1).bind fun bt371=>((laws_eqDisk.f kj66 bt371.1 bt371.2.1 t326 t329).bind fun t379=>(if t379 = true then (laws_FnExactPutText.j2 kj66 t361 (bt371.2.2 != t332) t362 t363) else (laws_FnExactPutText.j2 kj66 t361 true t362 t363))))) else (some false))) = some r:=H
          have A99:=Aside0.mk A990
          clear A990
          by_cases c100:t364 < 0
          ·rw [if_pos c100] at H
           have c100b0:decide (t364 < 0) = true:=decide_eq_true c100
           clear c100
           obtain rfl:=Option.some.inj H
           have hnb101:=NB348_318.out
           have hnc101:=NB318_348.out
           have hnb102:=NB348_333.out
           have hnc102:=NB333_348.out
           have hnb103:=NB348_340.out
           have hnc103:=NB340_348.out
           have hcz104_0:wc.cell? ⟨gb348,0,none⟩ = some (.slice Ao38 t341.length co38):=(blk_cell BK348.out 0).trans rfl
           have hcz104_1:wc.cell? ⟨gb348,1,none⟩ = some (.slice Ao43 t344.length co43):=(blk_cell BK348.out 1).trans rfl
           have hfz104_0:=blk_frozen BK348.out 0
           have hfz104_1:=blk_frozen BK348.out 1
           go_wp2_with (first|((with_reducible refine gate_callee (f:=19) rfl ?_);refine goesL_ (some 71) rfl rfl Try.func19 (by kernel_rfl) rfl #[.agg #[.slice Ao38 t341.length co38,.slice Ao43 t344.length co43],.int .i64 1] rfl (by (try simp only [List.map_toArray,List.map_cons,List.map_nil]);first|done|rfl|(simp only [List.length_drop,List.length_take];rfl)) ?_;(with_reducible refine (laws_markDisk.calls kj66 (fun k_=>some k_ = (.slice Ao38 t341.length co38:Value).ownBlock) (.slice Ao38 t341.length co38) t341 (fun k_=>some k_ = (.slice Ao43 t344.length co43:Value).ownBlock) (.slice Ao43 t344.length co43) t344 1 t361 t362 t363 w _ ?side1 ?side2 ?side3 ?side4 ?side5 A98.out).mono ?_);(case side1=>repeat (first|(with_reducible first|exact HB.out|apply below_alloc|refine below_set ?_ GE318.out|refine below_set ?_ GE333.out|refine below_set ?_ GE340.out|refine below_set ?_ GE348.out)|exact HB.out));(case side2=>exact Kd.R_tight rfl HO_349000.out);(case side3=>exact fun k_ e_=>(HO_349000.out.1 k_ e_.symm).2.2.2.2);(case side4=>exact Kd.R_tight rfl HO_349001.out);(case side5=>exact fun k_ e_=>(HO_349001.out.1 k_ e_.symm).2.2.2.2);rintro e w105 ⟨rfl,hy0,hy1,hb,hkp⟩;refine ⟨_,rfl,?_⟩;have n0_:=Aside0.mk (Kd.R_mono (ok':=fun k_=>some k_ ≠ (.slice Ao27 t329.length co27:Value).ownBlock ∧ some k_ ≠ (.slice Ao31 t358.length co31:Value).ownBlock ∧ some k_ ≠ (.slice Ao35 t359.length co35:Value).ownBlock ∧ some k_ ≠ (.slice Ao38 t341.length co38:Value).ownBlock ∧ some k_ ≠ (.slice Ao43 t344.length co43:Value).ownBlock) (Kd.R_keptB (HO_334000.out) hkp (fun k_ hk_ hs_=>Or.elim hs_ (fun e_=>(hk_.2.2.2.1) e_) (fun e_=>(hk_.2.2.2.2) e_))) (fun k_ hk_=>⟨hk_.1.1,hk_.1.2.1,hk_.1.2.2.1,hk_.1.2.2.2.1,hk_.1.2.2.2.2⟩));have n1_:=Aside0.mk (Kd.R_mono (ok':=fun k_=>some k_ ≠ (.slice Ao24 t326.length co24:Value).ownBlock ∧ some k_ ≠ (.slice Ao31 t358.length co31:Value).ownBlock ∧ some k_ ≠ (.slice Ao35 t359.length co35:Value).ownBlock ∧ some k_ ≠ (.slice Ao38 t341.length co38:Value).ownBlock ∧ some k_ ≠ (.slice Ao43 t344.length co43:Value).ownBlock) (Kd.R_keptB (HO_334001.out) hkp (fun k_ hk_ hs_=>Or.elim hs_ (fun e_=>(hk_.2.2.2.1) e_) (fun e_=>(hk_.2.2.2.2) e_))) (fun k_ hk_=>⟨hk_.1.1,hk_.1.2.1,hk_.1.2.2.1,hk_.1.2.2.2.1,hk_.1.2.2.2.2⟩));have n2_:=Aside0.mk (Kd.R_mono (ok':=fun k_=>some k_ ≠ (.slice Ao24 t326.length co24:Value).ownBlock ∧ some k_ ≠ (.slice Ao27 t329.length co27:Value).ownBlock ∧ some k_ ≠ (.slice Ao35 t359.length co35:Value).ownBlock ∧ some k_ ≠ (.slice Ao38 t341.length co38:Value).ownBlock ∧ some k_ ≠ (.slice Ao43 t344.length co43:Value).ownBlock) (Kd.R_keptB (HO_341000.out) hkp (fun k_ hk_ hs_=>Or.elim hs_ (fun e_=>(hk_.2.2.2.1) e_) (fun e_=>(hk_.2.2.2.2) e_))) (fun k_ hk_=>⟨hk_.1.1,hk_.1.2.1,hk_.1.2.2.1,hk_.1.2.2.2.1,hk_.1.2.2.2.2⟩));have n3_:=Aside0.mk (Kd.R_mono (ok':=fun k_=>some k_ ≠ (.slice Ao24 t326.length co24:Value).ownBlock ∧ some k_ ≠ (.slice Ao27 t329.length co27:Value).ownBlock ∧ some k_ ≠ (.slice Ao31 t358.length co31:Value).ownBlock ∧ some k_ ≠ (.slice Ao38 t341.length co38:Value).ownBlock ∧ some k_ ≠ (.slice Ao43 t344.length co43:Value).ownBlock) (Kd.R_keptB (HO_341001.out) hkp (fun k_ hk_ hs_=>Or.elim hs_ (fun e_=>(hk_.2.2.2.1) e_) (fun e_=>(hk_.2.2.2.2) e_))) (fun k_ hk_=>⟨hk_.1.1,hk_.1.2.1,hk_.1.2.2.1,hk_.1.2.2.2.1,hk_.1.2.2.2.2⟩));have n4_:=Aside0.mk (Kd.R_reok rfl hy0 (fun k_ e_=>HO_349000.out.1 k_ e_));have n5_:=Aside0.mk (Kd.R_reok rfl hy1 (fun k_ e_=>HO_349001.out.1 k_ e_));have n6_:=Aside0.mk (blk_kept (by (with_reducible repeat (refine blk_alloc ?_ _));exact BK318.out) hkp (fun hs_=>Or.elim hs_ (fun e_=>(fun e_=>(Kd.R_ne HO_349000.out BK318.out (by decide)) e_) e_) (fun e_=>(fun e_=>(Kd.R_ne HO_349001.out BK318.out (by decide)) e_) e_)));have n7_:=Aside0.mk (blk_kept (by (with_reducible repeat (refine blk_alloc ?_ _));exact BK333.out) hkp (fun hs_=>Or.elim hs_ (fun e_=>(fun e_=>(Kd.R_ne HO_349000.out BK333.out (by decide)) e_) e_) (fun e_=>(fun e_=>(Kd.R_ne HO_349001.out BK333.out (by decide)) e_) e_)));have n8_:=Aside0.mk (blk_kept (by (with_reducible repeat (refine blk_alloc ?_ _));exact BK340.out) hkp (fun hs_=>Or.elim hs_ (fun e_=>(fun e_=>(Kd.R_ne HO_349000.out BK340.out (by decide)) e_) e_) (fun e_=>(fun e_=>(Kd.R_ne HO_349001.out BK340.out (by decide)) e_) e_)));have n9_:=Aside0.mk (blk_kept (by (with_reducible repeat (refine blk_alloc ?_ _));exact BK348.out) hkp (fun hs_=>Or.elim hs_ (fun e_=>(fun e_=>(Kd.R_ne HO_349000.out BK348.out (by decide)) e_) e_) (fun e_=>(fun e_=>(Kd.R_ne HO_349001.out BK348.out (by decide)) e_) e_)));have n10_:=Aside0.mk (hb);clear HO_334000;clear HO_334001;clear HO_341000;clear HO_341001;clear HO_349000;clear HO_349001;clear BK318;clear BK333;clear BK340;clear BK348;clear HB;have HO_334000:=n0_;have HO_334001:=n1_;have HO_341000:=n2_;have HO_341001:=n3_;have HO_349000:=n4_;have HO_349001:=n5_;have BK318:=n6_;have BK333:=n7_;have BK340:=n8_;have BK348:=n9_;have HB:=n10_;clear n0_ n1_ n2_ n3_ n4_ n5_ n6_ n7_ n8_ n9_ n10_;(try clear hb);(try clear hkp);(try clear hy0);(try clear hy1);have hcz106_0:w105.cell? ⟨gb348,0,none⟩ = some (.slice Ao38 t341.length co38):=(blk_cell BK348.out 0).trans rfl;have hcz106_1:w105.cell? ⟨gb348,1,none⟩ = some (.slice Ao43 t344.length co43):=(blk_cell BK348.out 1).trans rfl;have hfz106_0:=blk_frozen BK348.out 0;have hfz106_1:=blk_frozen BK348.out 1)|((with_reducible refine gate_callee (f:=24) rfl ?_);refine goesL_ (some 74) rfl rfl Try.func24 (by kernel_rfl) rfl #[.agg #[.slice Ao38 t362.length co38,.slice Ao43 t363.length co43],.int .i64 1] rfl (by (try simp only [List.map_toArray,List.map_cons,List.map_nil]);first|done|(rw [show t362.length = t341.length from (Kd.R_reads' HO_349000.out).1.symm,show t363.length = t344.length from (Kd.R_reads' HO_349001.out).1.symm] <;> rfl)|rfl|(simp only [List.length_drop,List.length_take];rfl)) ?_;(with_reducible refine (laws_heldDisk.calls kj66 _ _ t362 _ _ t363 1 t364 _ ?side1 ?side2 ?side3 ?side4 A99.out).mono ?_);(case side1=>repeat (first|exact (Kd.R_reads' HO_349000.out).2.2|(with_reducible refine Kd.C_alloc ?_ _)));(case side2=>rw [show t362.length = t341.length from (Kd.R_reads' HO_349000.out).1.symm];exact (Kd.R_reads' HO_349000.out).2.1);(case side3=>repeat (first|exact (Kd.R_reads' HO_349001.out).2.2|(with_reducible refine Kd.C_alloc ?_ _)));(case side4=>rw [show t363.length = t344.length from (Kd.R_reads' HO_349001.out).1.symm];exact (Kd.R_reads' HO_349001.out).2.1);rintro e w107 ⟨rfl,hb⟩;refine ⟨_,rfl,?_⟩;have n0_:=Aside0.mk (Kd.R_below (by (with_reducible repeat (first|apply Kd.R_alloc));exact HO_334000.out) hb);have n1_:=Aside0.mk (Kd.R_below (by (with_reducible repeat (first|apply Kd.R_alloc));exact HO_334001.out) hb);have n2_:=Aside0.mk (Kd.R_below (by (with_reducible repeat (first|apply Kd.R_alloc));exact HO_341000.out) hb);have n3_:=Aside0.mk (Kd.R_below (by (with_reducible repeat (first|apply Kd.R_alloc));exact HO_341001.out) hb);have n4_:=Aside0.mk (Kd.R_below (by (with_reducible repeat (first|apply Kd.R_alloc));exact HO_349000.out) hb);have n5_:=Aside0.mk (Kd.R_below (by (with_reducible repeat (first|apply Kd.R_alloc));exact HO_349001.out) hb);have n6_:=Aside0.mk (blk_below (g:=gb318) (o:=.cells #[.slice A0_0 l0_0.length c0_0,.slice A0_1 l0_1.length c0_1] 30 (0,0)) (by (with_reducible repeat (refine blk_alloc ?_ _));exact BK318.out) hb);have n7_:=Aside0.mk (blk_below (g:=gb333) (o:=.cells #[.slice Ao24 t326.length co24,.slice Ao27 t329.length co27] 34 (0,0)) (by (with_reducible repeat (refine blk_alloc ?_ _));exact BK333.out) hb);have n8_:=Aside0.mk (blk_below (g:=gb340) (o:=.cells #[.slice Ao31 t358.length co31,.slice Ao35 t359.length co35] 34 (0,0)) (by (with_reducible repeat (refine blk_alloc ?_ _));exact BK340.out) hb);have n9_:=Aside0.mk (blk_below (g:=gb348) (o:=.cells #[.slice Ao38 t341.length co38,.slice Ao43 t344.length co43] 34 (0,0)) (by (with_reducible repeat (refine blk_alloc ?_ _));exact BK348.out) hb);have n10_:=Aside0.mk (below_step (by repeat (first|(with_reducible first|exact HB.out|apply below_alloc|refine below_set ?_ GE318.out|refine below_set ?_ GE333.out|refine below_set ?_ GE340.out|refine below_set ?_ GE348.out)|exact HB.out)) hb);clear HO_334000;clear HO_334001;clear HO_341000;clear HO_341001;clear HO_349000;clear HO_349001;clear BK318;clear BK333;clear BK340;clear BK348;clear HB;have HO_334000:=n0_;have HO_334001:=n1_;have HO_341000:=n2_;have HO_341001:=n3_;have HO_349000:=n4_;have HO_349001:=n5_;have BK318:=n6_;have BK333:=n7_;have BK340:=n8_;have BK348:=n9_;have HB:=n10_;clear n0_ n1_ n2_ n3_ n4_ n5_ n6_ n7_ n8_ n9_ n10_;(try clear hb);(try clear hb2);(try clear hk);(try clear hi)))
           go_ret
           exact ⟨by first|rfl|(simp [errW_none,errW_some] <;> rfl)|(simp [*,errW_none,errW_some] <;> rfl),by repeat (first|(with_reducible first|exact HB.out|apply below_alloc|refine below_set ?_ GE318.out|refine below_set ?_ GE333.out|refine below_set ?_ GE340.out|refine below_set ?_ GE348.out)|exact HB.out)⟩
          ·rw [if_neg c100] at H
           have c100b0:decide (t364 < 0) = false:=decide_eq_false c100
           clear c100
           by_cases c108:t364 = t361
           ·rw [if_pos c108] at H
            have c108b0:(t364 == t361) = true:=beq_iff_eq.mpr c108
            have c108b1:(t364 != t361) = false:=bne_eq_false_iff_eq.mpr c108
            clear c108
            replace H:=Option.bind_eq_some_iff.mp H
            obtain ⟨⟨t365,t368⟩,A1090,H⟩:=H
            replace H:((impl_PutText.f kj66 t365 t368 a1).bind fun bt371=>((laws_eqDisk.f kj66 bt371.1 bt371.2.1 t326 t329).bind fun t379=>(if t379 = true then (laws_FnExactPutText.j2 kj66 t361 (bt371.2.2 != t332) t362 t363) else (laws_FnExactPutText.j2 kj66 t361 true t362 t363)))) = some r:=H
            have A109:=Aside0.mk A1090
            clear A1090
            replace H:=Option.bind_eq_some_iff.mp H
            obtain ⟨⟨t371,t374,t377⟩,A1100,H⟩:=H
            replace H:((laws_eqDisk.f kj66 t371 t374 t326 t329).bind fun t379=>(if t379 = true then (laws_FnExactPutText.j2 kj66 t361 (t377 != t332) t362 t363) else (laws_FnExactPutText.j2 kj66 t361 true t362 t363))) = some r:=H
            have A110:=Aside0.mk A1100
            clear A1100
            have HC111:=Aside0.mk H
            clear H
            have hnb112:=NB348_318.out
            have hnc112:=NB318_348.out
            have hnb113:=NB348_333.out
            have hnc113:=NB333_348.out
            have hnb114:=NB348_340.out
            have hnc114:=NB340_348.out
            have hcz115_0:wc.cell? ⟨gb348,0,none⟩ = some (.slice Ao38 t341.length co38):=(blk_cell BK348.out 0).trans rfl
            have hcz115_1:wc.cell? ⟨gb348,1,none⟩ = some (.slice Ao43 t344.length co43):=(blk_cell BK348.out 1).trans rfl
            have hfz115_0:=blk_frozen BK348.out 0
            have hfz115_1:=blk_frozen BK348.out 1
            go_upto_region 27 with (first|((with_reducible refine gate_callee (f:=19) rfl ?_);refine goesL_ (some 71) rfl rfl Try.func19 (by kernel_rfl) rfl #[.agg #[.slice Ao38 t341.length co38,.slice Ao43 t344.length co43],.int .i64 1] rfl (by (try simp only [List.map_toArray,List.map_cons,List.map_nil]);first|done|rfl|(simp only [List.length_drop,List.length_take];rfl)) ?_;(with_reducible refine (laws_markDisk.calls kj66 (fun k_=>some k_ = (.slice Ao38 t341.length co38:Value).ownBlock) (.slice Ao38 t341.length co38) t341 (fun k_=>some k_ = (.slice Ao43 t344.length co43:Value).ownBlock) (.slice Ao43 t344.length co43) t344 1 t361 t362 t363 w _ ?side1 ?side2 ?side3 ?side4 ?side5 A98.out).mono ?_);(case side1=>repeat (first|(with_reducible first|exact HB.out|apply below_alloc|refine below_set ?_ GE318.out|refine below_set ?_ GE333.out|refine below_set ?_ GE340.out|refine below_set ?_ GE348.out)|exact HB.out));(case side2=>exact Kd.R_tight rfl HO_349000.out);(case side3=>exact fun k_ e_=>(HO_349000.out.1 k_ e_.symm).2.2.2.2);(case side4=>exact Kd.R_tight rfl HO_349001.out);(case side5=>exact fun k_ e_=>(HO_349001.out.1 k_ e_.symm).2.2.2.2);rintro e w116 ⟨rfl,hy0,hy1,hb,hkp⟩;refine ⟨_,rfl,?_⟩;have n0_:=Aside0.mk (Kd.R_mono (ok':=fun k_=>some k_ ≠ (.slice Ao27 t329.length co27:Value).ownBlock ∧ some k_ ≠ (.slice Ao31 t358.length co31:Value).ownBlock ∧ some k_ ≠ (.slice Ao35 t359.length co35:Value).ownBlock ∧ some k_ ≠ (.slice Ao38 t341.length co38:Value).ownBlock ∧ some k_ ≠ (.slice Ao43 t344.length co43:Value).ownBlock) (Kd.R_keptB (HO_334000.out) hkp (fun k_ hk_ hs_=>Or.elim hs_ (fun e_=>(hk_.2.2.2.1) e_) (fun e_=>(hk_.2.2.2.2) e_))) (fun k_ hk_=>⟨hk_.1.1,hk_.1.2.1,hk_.1.2.2.1,hk_.1.2.2.2.1,hk_.1.2.2.2.2⟩));have n1_:=Aside0.mk (Kd.R_mono (ok':=fun k_=>some k_ ≠ (.slice Ao24 t326.length co24:Value).ownBlock ∧ some k_ ≠ (.slice Ao31 t358.length co31:Value).ownBlock ∧ some k_ ≠ (.slice Ao35 t359.length co35:Value).ownBlock ∧ some k_ ≠ (.slice Ao38 t341.length co38:Value).ownBlock ∧ some k_ ≠ (.slice Ao43 t344.length co43:Value).ownBlock) (Kd.R_keptB (HO_334001.out) hkp (fun k_ hk_ hs_=>Or.elim hs_ (fun e_=>(hk_.2.2.2.1) e_) (fun e_=>(hk_.2.2.2.2) e_))) (fun k_ hk_=>⟨hk_.1.1,hk_.1.2.1,hk_.1.2.2.1,hk_.1.2.2.2.1,hk_.1.2.2.2.2⟩));have n2_:=Aside0.mk (Kd.R_mono (ok':=fun k_=>some k_ ≠ (.slice Ao24 t326.length co24:Value).ownBlock ∧ some k_ ≠ (.slice Ao27 t329.length co27:Value).ownBlock ∧ some k_ ≠ (.slice Ao35 t359.length co35:Value).ownBlock ∧ some k_ ≠ (.slice Ao38 t341.length co38:Value).ownBlock ∧ some k_ ≠ (.slice Ao43 t344.length co43:Value).ownBlock) (Kd.R_keptB (HO_341000.out) hkp (fun k_ hk_ hs_=>Or.elim hs_ (fun e_=>(hk_.2.2.2.1) e_) (fun e_=>(hk_.2.2.2.2) e_))) (fun k_ hk_=>⟨hk_.1.1,hk_.1.2.1,hk_.1.2.2.1,hk_.1.2.2.2.1,hk_.1.2.2.2.2⟩));have n3_:=Aside0.mk (Kd.R_mono (ok':=fun k_=>some k_ ≠ (.slice Ao24 t326.length co24:Value).ownBlock ∧ some k_ ≠ (.slice Ao27 t329.length co27:Value).ownBlock ∧ some k_ ≠ (.slice Ao31 t358.length co31:Value).ownBlock ∧ some k_ ≠ (.slice Ao38 t341.length co38:Value).ownBlock ∧ some k_ ≠ (.slice Ao43 t344.length co43:Value).ownBlock) (Kd.R_keptB (HO_341001.out) hkp (fun k_ hk_ hs_=>Or.elim hs_ (fun e_=>(hk_.2.2.2.1) e_) (fun e_=>(hk_.2.2.2.2) e_))) (fun k_ hk_=>⟨hk_.1.1,hk_.1.2.1,hk_.1.2.2.1,hk_.1.2.2.2.1,hk_.1.2.2.2.2⟩));have n4_:=Aside0.mk (Kd.R_reok rfl hy0 (fun k_ e_=>HO_349000.out.1 k_ e_));have n5_:=Aside0.mk (Kd.R_reok rfl hy1 (fun k_ e_=>HO_349001.out.1 k_ e_));have n6_:=Aside0.mk (blk_kept (by (with_reducible repeat (refine blk_alloc ?_ _));exact BK318.out) hkp (fun hs_=>Or.elim hs_ (fun e_=>(fun e_=>(Kd.R_ne HO_349000.out BK318.out (by decide)) e_) e_) (fun e_=>(fun e_=>(Kd.R_ne HO_349001.out BK318.out (by decide)) e_) e_)));have n7_:=Aside0.mk (blk_kept (by (with_reducible repeat (refine blk_alloc ?_ _));exact BK333.out) hkp (fun hs_=>Or.elim hs_ (fun e_=>(fun e_=>(Kd.R_ne HO_349000.out BK333.out (by decide)) e_) e_) (fun e_=>(fun e_=>(Kd.R_ne HO_349001.out BK333.out (by decide)) e_) e_)));have n8_:=Aside0.mk (blk_kept (by (with_reducible repeat (refine blk_alloc ?_ _));exact BK340.out) hkp (fun hs_=>Or.elim hs_ (fun e_=>(fun e_=>(Kd.R_ne HO_349000.out BK340.out (by decide)) e_) e_) (fun e_=>(fun e_=>(Kd.R_ne HO_349001.out BK340.out (by decide)) e_) e_)));have n9_:=Aside0.mk (blk_kept (by (with_reducible repeat (refine blk_alloc ?_ _));exact BK348.out) hkp (fun hs_=>Or.elim hs_ (fun e_=>(fun e_=>(Kd.R_ne HO_349000.out BK348.out (by decide)) e_) e_) (fun e_=>(fun e_=>(Kd.R_ne HO_349001.out BK348.out (by decide)) e_) e_)));have n10_:=Aside0.mk (hb);clear HO_334000;clear HO_334001;clear HO_341000;clear HO_341001;clear HO_349000;clear HO_349001;clear BK318;clear BK333;clear BK340;clear BK348;clear HB;have HO_334000:=n0_;have HO_334001:=n1_;have HO_341000:=n2_;have HO_341001:=n3_;have HO_349000:=n4_;have HO_349001:=n5_;have BK318:=n6_;have BK333:=n7_;have BK340:=n8_;have BK348:=n9_;have HB:=n10_;clear n0_ n1_ n2_ n3_ n4_ n5_ n6_ n7_ n8_ n9_ n10_;(try clear hb);(try clear hkp);(try clear hy0);(try clear hy1);have hcz117_0:w116.cell? ⟨gb348,0,none⟩ = some (.slice Ao38 t341.length co38):=(blk_cell BK348.out 0).trans rfl;have hcz117_1:w116.cell? ⟨gb348,1,none⟩ = some (.slice Ao43 t344.length co43):=(blk_cell BK348.out 1).trans rfl;have hfz117_0:=blk_frozen BK348.out 0;have hfz117_1:=blk_frozen BK348.out 1)|((with_reducible refine gate_callee (f:=24) rfl ?_);refine goesL_ (some 74) rfl rfl Try.func24 (by kernel_rfl) rfl #[.agg #[.slice Ao38 t362.length co38,.slice Ao43 t363.length co43],.int .i64 1] rfl (by (try simp only [List.map_toArray,List.map_cons,List.map_nil]);first|done|(rw [show t362.length = t341.length from (Kd.R_reads' HO_349000.out).1.symm,show t363.length = t344.length from (Kd.R_reads' HO_349001.out).1.symm] <;> rfl)|rfl|(simp only [List.length_drop,List.length_take];rfl)) ?_;(with_reducible refine (laws_heldDisk.calls kj66 _ _ t362 _ _ t363 1 t364 _ ?side1 ?side2 ?side3 ?side4 A99.out).mono ?_);(case side1=>repeat (first|exact (Kd.R_reads' HO_349000.out).2.2|(with_reducible refine Kd.C_alloc ?_ _)));(case side2=>rw [show t362.length = t341.length from (Kd.R_reads' HO_349000.out).1.symm];exact (Kd.R_reads' HO_349000.out).2.1);(case side3=>repeat (first|exact (Kd.R_reads' HO_349001.out).2.2|(with_reducible refine Kd.C_alloc ?_ _)));(case side4=>rw [show t363.length = t344.length from (Kd.R_reads' HO_349001.out).1.symm];exact (Kd.R_reads' HO_349001.out).2.1);rintro e w118 ⟨rfl,hb⟩;refine ⟨_,rfl,?_⟩;have n0_:=Aside0.mk (Kd.R_below (by (with_reducible repeat (first|apply Kd.R_alloc));exact HO_334000.out) hb);have n1_:=Aside0.mk (Kd.R_below (by (with_reducible repeat (first|apply Kd.R_alloc));exact HO_334001.out) hb);have n2_:=Aside0.mk (Kd.R_below (by (with_reducible repeat (first|apply Kd.R_alloc));exact HO_341000.out) hb);have n3_:=Aside0.mk (Kd.R_below (by (with_reducible repeat (first|apply Kd.R_alloc));exact HO_341001.out) hb);have n4_:=Aside0.mk (Kd.R_below (by (with_reducible repeat (first|apply Kd.R_alloc));exact HO_349000.out) hb);have n5_:=Aside0.mk (Kd.R_below (by (with_reducible repeat (first|apply Kd.R_alloc));exact HO_349001.out) hb);have n6_:=Aside0.mk (blk_below (g:=gb318) (o:=.cells #[.slice A0_0 l0_0.length c0_0,.slice A0_1 l0_1.length c0_1] 30 (0,0)) (by (with_reducible repeat (refine blk_alloc ?_ _));exact BK318.out) hb);have n7_:=Aside0.mk (blk_below (g:=gb333) (o:=.cells #[.slice Ao24 t326.length co24,.slice Ao27 t329.length co27] 34 (0,0)) (by (with_reducible repeat (refine blk_alloc ?_ _));exact BK333.out) hb);have n8_:=Aside0.mk (blk_below (g:=gb340) (o:=.cells #[.slice Ao31 t358.length co31,.slice Ao35 t359.length co35] 34 (0,0)) (by (with_reducible repeat (refine blk_alloc ?_ _));exact BK340.out) hb);have n9_:=Aside0.mk (blk_below (g:=gb348) (o:=.cells #[.slice Ao38 t341.length co38,.slice Ao43 t344.length co43] 34 (0,0)) (by (with_reducible repeat (refine blk_alloc ?_ _));exact BK348.out) hb);have n10_:=Aside0.mk (below_step (by repeat (first|(with_reducible first|exact HB.out|apply below_alloc|refine below_set ?_ GE318.out|refine below_set ?_ GE333.out|refine below_set ?_ GE340.out|refine below_set ?_ GE348.out)|exact HB.out)) hb);clear HO_334000;clear HO_334001;clear HO_341000;clear HO_341001;clear HO_349000;clear HO_349001;clear BK318;clear BK333;clear BK340;clear BK348;clear HB;have HO_334000:=n0_;have HO_334001:=n1_;have HO_341000:=n2_;have HO_341001:=n3_;have HO_349000:=n4_;have HO_349001:=n5_;have BK318:=n6_;have BK333:=n7_;have BK340:=n8_;have BK348:=n9_;have HB:=n10_;clear n0_ n1_ n2_ n3_ n4_ n5_ n6_ n7_ n8_ n9_ n10_;(try clear hb);(try clear hb2);(try clear hk);(try clear hi);have hnb119:=NB318_333.out;have hnc119:=NB333_318.out;have hnb120:=NB318_340.out;have hnc120:=NB340_318.out;have hcz121_0:w118.cell? ⟨gb318,0,none⟩ = some (.slice A0_0 l0_0.length c0_0):=(blk_cell BK318.out 0).trans rfl;have hcz121_1:w118.cell? ⟨gb318,1,none⟩ = some (.slice A0_1 l0_1.length c0_1):=(blk_cell BK318.out 1).trans rfl;have hfz121_0:=blk_frozen BK318.out 0;have hfz121_1:=blk_frozen BK318.out 1)|((with_reducible refine gate_callee (f:=15) rfl ?_);refine goesL_ (some 82) rfl rfl Try.func15 (by kernel_rfl) rfl #[.agg #[.slice A0_0 l0_0.length c0_0,.slice A0_1 l0_1.length c0_1]] rfl (by (try simp only [List.map_toArray,List.map_cons,List.map_nil]);first|done|rfl|(simp only [List.length_drop,List.length_take];rfl)) ?_;(with_reducible refine (laws_toDisk.calls kj66 _ _ l0_0 _ _ l0_1 t365 t368 _ ?side1 ?side2 ?side3 ?side4 A109.out).mono ?_);(case side1=>repeat (first|exact (Kd.C_below HR0_0.out HB.out)|(with_reducible refine Kd.C_alloc ?_ _)));(case side2=>exact HC0_0.out);(case side3=>repeat (first|exact (Kd.C_below HR0_1.out HB.out)|(with_reducible refine Kd.C_alloc ?_ _)));(case side4=>exact HC0_1.out);rintro e w122 ⟨v366,v369,rfl,ho0,ho1,hb⟩;refine ⟨_,rfl,?_⟩;have n0_:=Aside0.mk (Kd.R_mono (Kd.R_told (Kd.R_told (Kd.R_old (by (with_reducible repeat (first|apply Kd.R_alloc));exact HO_334000.out) hb) (Kd.R_base ho0)) (Kd.R_base ho1)) (fun _ h_=>h_.1));have n1_:=Aside0.mk (Kd.R_mono (Kd.R_told (Kd.R_told (Kd.R_old (by (with_reducible repeat (first|apply Kd.R_alloc));exact HO_334001.out) hb) (Kd.R_base ho0)) (Kd.R_base ho1)) (fun _ h_=>h_.1));have n2_:=Aside0.mk (Kd.R_mono (Kd.R_told (Kd.R_told (Kd.R_old (by (with_reducible repeat (first|apply Kd.R_alloc));exact HO_341000.out) hb) (Kd.R_base ho0)) (Kd.R_base ho1)) (fun _ h_=>h_.1));have n3_:=Aside0.mk (Kd.R_mono (Kd.R_told (Kd.R_told (Kd.R_old (by (with_reducible repeat (first|apply Kd.R_alloc));exact HO_341001.out) hb) (Kd.R_base ho0)) (Kd.R_base ho1)) (fun _ h_=>h_.1));have n4_:=Aside0.mk (Kd.R_mono (Kd.R_told (Kd.R_told (Kd.R_old (by (with_reducible repeat (first|apply Kd.R_alloc));exact HO_349000.out) hb) (Kd.R_base ho0)) (Kd.R_base ho1)) (fun _ h_=>h_.1));have n5_:=Aside0.mk (Kd.R_mono (Kd.R_told (Kd.R_told (Kd.R_old (by (with_reducible repeat (first|apply Kd.R_alloc));exact HO_349001.out) hb) (Kd.R_base ho0)) (Kd.R_base ho1)) (fun _ h_=>h_.1));have n6_:=Aside0.mk (Kd.R_lower (Kd.R_new' (Kd.R_new' (Kd.R_new' (Kd.R_new' (Kd.R_new' (Kd.R_new' ho0 (Kd.R_lt (by (with_reducible repeat (first|apply Kd.R_alloc));exact HO_334000.out))) (Kd.R_lt (by (with_reducible repeat (first|apply Kd.R_alloc));exact HO_334001.out))) (Kd.R_lt (by (with_reducible repeat (first|apply Kd.R_alloc));exact HO_341000.out))) (Kd.R_lt (by (with_reducible repeat (first|apply Kd.R_alloc));exact HO_341001.out))) (Kd.R_lt (by (with_reducible repeat (first|apply Kd.R_alloc));exact HO_349000.out))) (Kd.R_lt (by (with_reducible repeat (first|apply Kd.R_alloc));exact HO_349001.out))) (below_size (by repeat (first|(with_reducible first|exact HB.out|apply below_alloc|refine below_set ?_ GE318.out|refine below_set ?_ GE333.out|refine below_set ?_ GE340.out|refine below_set ?_ GE348.out)|exact HB.out))));have n7_:=Aside0.mk (Kd.R_lower (Kd.R_new' (Kd.R_new' (Kd.R_new' (Kd.R_new' (Kd.R_new' (Kd.R_new' ho1 (Kd.R_lt (by (with_reducible repeat (first|apply Kd.R_alloc));exact HO_334000.out))) (Kd.R_lt (by (with_reducible repeat (first|apply Kd.R_alloc));exact HO_334001.out))) (Kd.R_lt (by (with_reducible repeat (first|apply Kd.R_alloc));exact HO_341000.out))) (Kd.R_lt (by (with_reducible repeat (first|apply Kd.R_alloc));exact HO_341001.out))) (Kd.R_lt (by (with_reducible repeat (first|apply Kd.R_alloc));exact HO_349000.out))) (Kd.R_lt (by (with_reducible repeat (first|apply Kd.R_alloc));exact HO_349001.out))) (below_size (by repeat (first|(with_reducible first|exact HB.out|apply below_alloc|refine below_set ?_ GE318.out|refine below_set ?_ GE333.out|refine below_set ?_ GE340.out|refine below_set ?_ GE348.out)|exact HB.out))));have n8_:=Aside0.mk (blk_below (g:=gb318) (o:=.cells #[.slice A0_0 l0_0.length c0_0,.slice A0_1 l0_1.length c0_1] 30 (0,0)) (by (with_reducible repeat (refine blk_alloc ?_ _));exact BK318.out) hb);have n9_:=Aside0.mk (blk_below (g:=gb333) (o:=.cells #[.slice Ao24 t326.length co24,.slice Ao27 t329.length co27] 34 (0,0)) (by (with_reducible repeat (refine blk_alloc ?_ _));exact BK333.out) hb);have n10_:=Aside0.mk (blk_below (g:=gb340) (o:=.cells #[.slice Ao31 t358.length co31,.slice Ao35 t359.length co35] 34 (0,0)) (by (with_reducible repeat (refine blk_alloc ?_ _));exact BK340.out) hb);have n11_:=Aside0.mk (blk_below (g:=gb348) (o:=.cells #[.slice Ao38 t341.length co38,.slice Ao43 t344.length co43] 34 (0,0)) (by (with_reducible repeat (refine blk_alloc ?_ _));exact BK348.out) hb);have n12_:=Aside0.mk (below_step (by repeat (first|(with_reducible first|exact HB.out|apply below_alloc|refine below_set ?_ GE318.out|refine below_set ?_ GE333.out|refine below_set ?_ GE340.out|refine below_set ?_ GE348.out)|exact HB.out)) hb);clear HO_334000;clear HO_334001;clear HO_341000;clear HO_341001;clear HO_349000;clear HO_349001;clear BK318;clear BK333;clear BK340;clear BK348;clear HB;have HO_334000:=n0_;have HO_334001:=n1_;have HO_341000:=n2_;have HO_341001:=n3_;have HO_349000:=n4_;have HO_349001:=n5_;have HO367:=n6_;have HO370:=n7_;have BK318:=n8_;have BK333:=n9_;have BK340:=n10_;have BK348:=n11_;have HB:=n12_;clear n0_ n1_ n2_ n3_ n4_ n5_ n6_ n7_ n8_ n9_ n10_ n11_ n12_;(try clear hb);(try clear hb2);(try clear hk);(try clear hi);(try clear ho0);(try clear ho1);obtain ⟨Ao123,co123,eo123⟩:=Kd.R_slice HO367.out;subst eo123;obtain ⟨Ao124,co124,eo124⟩:=Kd.R_slice HO370.out;subst eo124)|((with_reducible refine gate_callee (f:=26) rfl ?_);refine goesL_ (some 84) rfl rfl Try.func26 (by kernel_rfl) rfl #[.agg #[.slice Ao123 t365.length co123,.slice Ao124 t368.length co124],.string a1] rfl (by (try simp only [List.map_toArray,List.map_cons,List.map_nil]);first|done|rfl|(simp only [List.length_drop,List.length_take];rfl)) ?_;(with_reducible refine (impl_PutText.calls kj66 _ _ t365 _ _ t368 a1 t371 t374 t377 _ ?side1 ?side2 ?side3 ?side4 A110.out).mono ?_);(case side1=>repeat (first|exact (Kd.R_reads' HO367.out).2.2|(with_reducible refine Kd.C_alloc ?_ _)));(case side2=>exact (Kd.R_reads' HO367.out).2.1);(case side3=>repeat (first|exact (Kd.R_reads' HO370.out).2.2|(with_reducible refine Kd.C_alloc ?_ _)));(case side4=>exact (Kd.R_reads' HO370.out).2.1);rintro e w125 ⟨v372,v375,rfl,ho0,ho1,hb⟩;refine ⟨_,rfl,?_⟩;have n0_:=Aside0.mk (Kd.R_mono (Kd.R_told (Kd.R_told (Kd.R_old (by (with_reducible repeat (first|apply Kd.R_alloc));exact HO_334000.out) hb) (Kd.R_base ho0)) (Kd.R_base ho1)) (fun _ h_=>h_.1));have n1_:=Aside0.mk (Kd.R_mono (Kd.R_told (Kd.R_told (Kd.R_old (by (with_reducible repeat (first|apply Kd.R_alloc));exact HO_334001.out) hb) (Kd.R_base ho0)) (Kd.R_base ho1)) (fun _ h_=>h_.1));have n2_:=Aside0.mk (Kd.R_mono (Kd.R_told (Kd.R_told (Kd.R_old (by (with_reducible repeat (first|apply Kd.R_alloc));exact HO_341000.out) hb) (Kd.R_base ho0)) (Kd.R_base ho1)) (fun _ h_=>h_.1));have n3_:=Aside0.mk (Kd.R_mono (Kd.R_told (Kd.R_told (Kd.R_old (by (with_reducible repeat (first|apply Kd.R_alloc));exact HO_341001.out) hb) (Kd.R_base ho0)) (Kd.R_base ho1)) (fun _ h_=>h_.1));have n4_:=Aside0.mk (Kd.R_mono (Kd.R_told (Kd.R_told (Kd.R_old (by (with_reducible repeat (first|apply Kd.R_alloc));exact HO_349000.out) hb) (Kd.R_base ho0)) (Kd.R_base ho1)) (fun _ h_=>h_.1));have n5_:=Aside0.mk (Kd.R_mono (Kd.R_told (Kd.R_told (Kd.R_old (by (with_reducible repeat (first|apply Kd.R_alloc));exact HO_349001.out) hb) (Kd.R_base ho0)) (Kd.R_base ho1)) (fun _ h_=>h_.1));have n6_:=Aside0.mk (Kd.R_mono (Kd.R_told (Kd.R_told (Kd.R_old (by (with_reducible repeat (first|apply Kd.R_alloc));exact HO367.out) hb) (Kd.R_base ho0)) (Kd.R_base ho1)) (fun _ h_=>h_.1));have n7_:=Aside0.mk (Kd.R_mono (Kd.R_told (Kd.R_told (Kd.R_old (by (with_reducible repeat (first|apply Kd.R_alloc));exact HO370.out) hb) (Kd.R_base ho0)) (Kd.R_base ho1)) (fun _ h_=>h_.1));have n8_:=Aside0.mk (Kd.R_lower (Kd.R_new' (Kd.R_new' (Kd.R_new' (Kd.R_new' (Kd.R_new' (Kd.R_new' (Kd.R_new' (Kd.R_new' ho0 (Kd.R_lt (by (with_reducible repeat (first|apply Kd.R_alloc));exact HO_334000.out))) (Kd.R_lt (by (with_reducible repeat (first|apply Kd.R_alloc));exact HO_334001.out))) (Kd.R_lt (by (with_reducible repeat (first|apply Kd.R_alloc));exact HO_341000.out))) (Kd.R_lt (by (with_reducible repeat (first|apply Kd.R_alloc));exact HO_341001.out))) (Kd.R_lt (by (with_reducible repeat (first|apply Kd.R_alloc));exact HO_349000.out))) (Kd.R_lt (by (with_reducible repeat (first|apply Kd.R_alloc));exact HO_349001.out))) (Kd.R_lt (by (with_reducible repeat (first|apply Kd.R_alloc));exact HO367.out))) (Kd.R_lt (by (with_reducible repeat (first|apply Kd.R_alloc));exact HO370.out))) (below_size (by repeat (first|(with_reducible first|exact HB.out|apply below_alloc|refine below_set ?_ GE318.out|refine below_set ?_ GE333.out|refine below_set ?_ GE340.out|refine below_set ?_ GE348.out)|exact HB.out))));have n9_:=Aside0.mk (Kd.R_lower (Kd.R_new' (Kd.R_new' (Kd.R_new' (Kd.R_new' (Kd.R_new' (Kd.R_new' (Kd.R_new' (Kd.R_new' ho1 (Kd.R_lt (by (with_reducible repeat (first|apply Kd.R_alloc));exact HO_334000.out))) (Kd.R_lt (by (with_reducible repeat (first|apply Kd.R_alloc));exact HO_334001.out))) (Kd.R_lt (by (with_reducible repeat (first|apply Kd.R_alloc));exact HO_341000.out))) (Kd.R_lt (by (with_reducible repeat (first|apply Kd.R_alloc));exact HO_341001.out))) (Kd.R_lt (by (with_reducible repeat (first|apply Kd.R_alloc));exact HO_349000.out))) (Kd.R_lt (by (with_reducible repeat (first|apply Kd.R_alloc));exact HO_349001.out))) (Kd.R_lt (by (with_reducible repeat (first|apply Kd.R_alloc));exact HO367.out))) (Kd.R_lt (by (with_reducible repeat (first|apply Kd.R_alloc));exact HO370.out))) (below_size (by repeat (first|(with_reducible first|exact HB.out|apply below_alloc|refine below_set ?_ GE318.out|refine below_set ?_ GE333.out|refine below_set ?_ GE340.out|refine below_set ?_ GE348.out)|exact HB.out))));have n10_:=Aside0.mk (blk_below (g:=gb318) (o:=.cells #[.slice A0_0 l0_0.length c0_0,.slice A0_1 l0_1.length c0_1] 30 (0,0)) (by (with_reducible repeat (refine blk_alloc ?_ _));exact BK318.out) hb);have n11_:=Aside0.mk (blk_below (g:=gb333) (o:=.cells #[.slice Ao24 t326.length co24,.slice Ao27 t329.length co27] 34 (0,0)) (by (with_reducible repeat (refine blk_alloc ?_ _));exact BK333.out) hb);have n12_:=Aside0.mk (blk_below (g:=gb340) (o:=.cells #[.slice Ao31 t358.length co31,.slice Ao35 t359.length co35] 34 (0,0)) (by (with_reducible repeat (refine blk_alloc ?_ _));exact BK340.out) hb);have n13_:=Aside0.mk (blk_below (g:=gb348) (o:=.cells #[.slice Ao38 t341.length co38,.slice Ao43 t344.length co43] 34 (0,0)) (by (with_reducible repeat (refine blk_alloc ?_ _));exact BK348.out) hb);have n14_:=Aside0.mk (below_step (by repeat (first|(with_reducible first|exact HB.out|apply below_alloc|refine below_set ?_ GE318.out|refine below_set ?_ GE333.out|refine below_set ?_ GE340.out|refine below_set ?_ GE348.out)|exact HB.out)) hb);clear HO_334000;clear HO_334001;clear HO_341000;clear HO_341001;clear HO_349000;clear HO_349001;clear HO367;clear HO370;clear BK318;clear BK333;clear BK340;clear BK348;clear HB;have HO_334000:=n0_;have HO_334001:=n1_;have HO_341000:=n2_;have HO_341001:=n3_;have HO_349000:=n4_;have HO_349001:=n5_;have HO367:=n6_;have HO370:=n7_;have HO373:=n8_;have HO376:=n9_;have BK318:=n10_;have BK333:=n11_;have BK340:=n12_;have BK348:=n13_;have HB:=n14_;clear n0_ n1_ n2_ n3_ n4_ n5_ n6_ n7_ n8_ n9_ n10_ n11_ n12_ n13_ n14_;(try clear hb);(try clear hb2);(try clear hk);(try clear hi);(try clear ho0);(try clear ho1))|((with_reducible refine gate_dst (N:=14) rfl ?_);refine box_event ?hg (N:=14) ?hd (cs:=#[.slice none 0 0,.slice none 0 0]) (t:=34) ?hr ?_;(case hd=>rfl);(case hg=>rfl);(case hr=>first|(go_simp;done)|(go_simp;rfl));intro gb378 hg w126 hbox hb;have n0_:=Aside0.mk (Kd.R_below (by (with_reducible repeat (first|apply Kd.R_alloc));exact HO_334000.out) hb);have n1_:=Aside0.mk (Kd.R_below (by (with_reducible repeat (first|apply Kd.R_alloc));exact HO_334001.out) hb);have n2_:=Aside0.mk (Kd.R_below (by (with_reducible repeat (first|apply Kd.R_alloc));exact HO_341000.out) hb);have n3_:=Aside0.mk (Kd.R_below (by (with_reducible repeat (first|apply Kd.R_alloc));exact HO_341001.out) hb);have n4_:=Aside0.mk (Kd.R_below (by (with_reducible repeat (first|apply Kd.R_alloc));exact HO_349000.out) hb);have n5_:=Aside0.mk (Kd.R_below (by (with_reducible repeat (first|apply Kd.R_alloc));exact HO_349001.out) hb);have n6_:=Aside0.mk (Kd.R_below (by (with_reducible repeat (first|apply Kd.R_alloc));exact HO367.out) hb);have n7_:=Aside0.mk (Kd.R_below (by (with_reducible repeat (first|apply Kd.R_alloc));exact HO370.out) hb);have n8_:=Aside0.mk (Kd.R_below (by (with_reducible repeat (first|apply Kd.R_alloc));exact HO373.out) hb);have n9_:=Aside0.mk (Kd.R_below (by (with_reducible repeat (first|apply Kd.R_alloc));exact HO376.out) hb);have n10_:=Aside0.mk (blk_below (g:=gb318) (o:=.cells #[.slice A0_0 l0_0.length c0_0,.slice A0_1 l0_1.length c0_1] 30 (0,0)) (by (with_reducible repeat (refine blk_alloc ?_ _));exact BK318.out) hb);have n11_:=Aside0.mk (blk_below (g:=gb333) (o:=.cells #[.slice Ao24 t326.length co24,.slice Ao27 t329.length co27] 34 (0,0)) (by (with_reducible repeat (refine blk_alloc ?_ _));exact BK333.out) hb);have n12_:=Aside0.mk (blk_below (g:=gb340) (o:=.cells #[.slice Ao31 t358.length co31,.slice Ao35 t359.length co35] 34 (0,0)) (by (with_reducible repeat (refine blk_alloc ?_ _));exact BK340.out) hb);have n13_:=Aside0.mk (blk_below (g:=gb348) (o:=.cells #[.slice Ao38 t341.length co38,.slice Ao43 t344.length co43] 34 (0,0)) (by (with_reducible repeat (refine blk_alloc ?_ _));exact BK348.out) hb);have n14_:=Aside0.mk (below_step (by repeat (first|(with_reducible first|exact HB.out|apply below_alloc|refine below_set ?_ GE318.out|refine below_set ?_ GE333.out|refine below_set ?_ GE340.out|refine below_set ?_ GE348.out)|exact HB.out)) hb);have n15_:=Aside0.mk (hbox);have n16_:=Aside0.mk ((by rw [hg];exact (below_size (by repeat (first|(with_reducible first|exact HB.out|apply below_alloc|refine below_set ?_ GE318.out|refine below_set ?_ GE333.out|refine below_set ?_ GE340.out|refine below_set ?_ GE348.out)|exact HB.out))):w.heap.size ≤ gb378));have n17_:=Aside0.mk ((by rw [hg];exact (below_size (by repeat (first|(with_reducible first|exact HB.out|apply below_alloc|refine below_set ?_ GE318.out|refine below_set ?_ GE333.out|refine below_set ?_ GE340.out|refine below_set ?_ GE348.out)|exact HB.out))):w.heap.size ≤ gb378));have n18_:=Aside0.mk ((by rw [hg];exact Nat.ne_of_lt (blk_lt (g:=gb318) (o:=.cells #[.slice A0_0 l0_0.length c0_0,.slice A0_1 l0_1.length c0_1] 30 (0,0)) (by (with_reducible repeat (refine blk_alloc ?_ _));exact BK318.out)):gb318 ≠ gb378));have n19_:=Aside0.mk ((by rw [hg];exact Nat.ne_of_gt (blk_lt (g:=gb318) (o:=.cells #[.slice A0_0 l0_0.length c0_0,.slice A0_1 l0_1.length c0_1] 30 (0,0)) (by (with_reducible repeat (refine blk_alloc ?_ _));exact BK318.out)):gb378 ≠ gb318));have n20_:=Aside0.mk ((by rw [hg];exact Nat.ne_of_lt (blk_lt (g:=gb333) (o:=.cells #[.slice Ao24 t326.length co24,.slice Ao27 t329.length co27] 34 (0,0)) (by (with_reducible repeat (refine blk_alloc ?_ _));exact BK333.out)):gb333 ≠ gb378));have n21_:=Aside0.mk ((by rw [hg];exact Nat.ne_of_gt (blk_lt (g:=gb333) (o:=.cells #[.slice Ao24 t326.length co24,.slice Ao27 t329.length co27] 34 (0,0)) (by (with_reducible repeat (refine blk_alloc ?_ _));exact BK333.out)):gb378 ≠ gb333));have n22_:=Aside0.mk ((by rw [hg];exact Nat.ne_of_lt (blk_lt (g:=gb340) (o:=.cells #[.slice Ao31 t358.length co31,.slice Ao35 t359.length co35] 34 (0,0)) (by (with_reducible repeat (refine blk_alloc ?_ _));exact BK340.out)):gb340 ≠ gb378));have n23_:=Aside0.mk ((by rw [hg];exact Nat.ne_of_gt (blk_lt (g:=gb340) (o:=.cells #[.slice Ao31 t358.length co31,.slice Ao35 t359.length co35] 34 (0,0)) (by (with_reducible repeat (refine blk_alloc ?_ _));exact BK340.out)):gb378 ≠ gb340));have n24_:=Aside0.mk ((by rw [hg];exact Nat.ne_of_lt (blk_lt (g:=gb348) (o:=.cells #[.slice Ao38 t341.length co38,.slice Ao43 t344.length co43] 34 (0,0)) (by (with_reducible repeat (refine blk_alloc ?_ _));exact BK348.out)):gb348 ≠ gb378));have n25_:=Aside0.mk ((by rw [hg];exact Nat.ne_of_gt (blk_lt (g:=gb348) (o:=.cells #[.slice Ao38 t341.length co38,.slice Ao43 t344.length co43] 34 (0,0)) (by (with_reducible repeat (refine blk_alloc ?_ _));exact BK348.out)):gb378 ≠ gb348));clear HO_334000;clear HO_334001;clear HO_341000;clear HO_341001;clear HO_349000;clear HO_349001;clear HO367;clear HO370;clear HO373;clear HO376;clear BK318;clear BK333;clear BK340;clear BK348;clear HB;have HO_334000:=n0_;have HO_334001:=n1_;have HO_341000:=n2_;have HO_341001:=n3_;have HO_349000:=n4_;have HO_349001:=n5_;have HO367:=n6_;have HO370:=n7_;have HO373:=n8_;have HO376:=n9_;have BK318:=n10_;have BK333:=n11_;have BK340:=n12_;have BK348:=n13_;have HB:=n14_;have BK378:=n15_;have GW378:=n16_;have GE378:=n17_;have NB318_378:=n18_;have NB378_318:=n19_;have NB333_378:=n20_;have NB378_333:=n21_;have NB340_378:=n22_;have NB378_340:=n23_;have NB348_378:=n24_;have NB378_348:=n25_;clear n0_ n1_ n2_ n3_ n4_ n5_ n6_ n7_ n8_ n9_ n10_ n11_ n12_ n13_ n14_ n15_ n16_ n17_ n18_ n19_ n20_ n21_ n22_ n23_ n24_ n25_;clear hb hbox hg;obtain ⟨Ao127,co127,eo127⟩:=Kd.R_slice HO373.out;subst eo127;have hnb128:=NB378_318.out;have hnc128:=NB318_378.out;have hnb129:=NB378_333.out;have hnc129:=NB333_378.out;have hnb130:=NB378_340.out;have hnc130:=NB340_378.out;have hnb131:=NB378_348.out;have hnc131:=NB348_378.out;have hcz132_0:w126.cell? ⟨gb378,0,none⟩ = some (.slice none 0 0):=(blk_cell BK378.out 0).trans rfl;have hcz132_1:w126.cell? ⟨gb378,1,none⟩ = some (.slice none 0 0):=(blk_cell BK378.out 1).trans rfl;have hfz132_0:=blk_frozen BK378.out 0;have hfz132_1:=blk_frozen BK378.out 1;obtain ⟨Ao133,co133,eo133⟩:=Kd.R_slice HO376.out;subst eo133))
            (try simp only [Act.put,List.setIfInBounds_toArray,List.set_cons_zero,List.set_cons_succ])
            go_cut [95] (fun v95 wc=>∃ (kq:Nat) (x95_110:Bool),v95 = .bool x95_110 ∧ Aside0 (laws_FnExactPutText.j2 kq t361 x95_110 t362 t363 = some r) ∧ Aside0 (kq ≤ kj66) ∧ Aside0 (Kd.R Kd.string 9 wc w.heap.size (fun k_=>some k_ ≠ ((.slice Ao27 t329.length co27):Value).ownBlock ∧ some k_ ≠ ((.slice Ao31 t358.length co31):Value).ownBlock ∧ some k_ ≠ ((.slice Ao35 t359.length co35):Value).ownBlock ∧ some k_ ≠ ((.slice Ao38 t341.length co38):Value).ownBlock ∧ some k_ ≠ ((.slice Ao43 t344.length co43):Value).ownBlock ∧ some k_ ≠ ((.slice Ao127 t371.length co127):Value).ownBlock ∧ some k_ ≠ ((.slice Ao133 t374.length co133):Value).ownBlock) (.slice Ao24 t326.length co24) t326) ∧ Aside0 (Kd.R Kd.string 9 wc w.heap.size (fun k_=>some k_ ≠ ((.slice Ao24 t326.length co24):Value).ownBlock ∧ some k_ ≠ ((.slice Ao31 t358.length co31):Value).ownBlock ∧ some k_ ≠ ((.slice Ao35 t359.length co35):Value).ownBlock ∧ some k_ ≠ ((.slice Ao38 t341.length co38):Value).ownBlock ∧ some k_ ≠ ((.slice Ao43 t344.length co43):Value).ownBlock ∧ some k_ ≠ ((.slice Ao127 t371.length co127):Value).ownBlock ∧ some k_ ≠ ((.slice Ao133 t374.length co133):Value).ownBlock) (.slice Ao27 t329.length co27) t329) ∧ Aside0 (Kd.R Kd.string 9 wc w.heap.size (fun k_=>some k_ ≠ ((.slice Ao24 t326.length co24):Value).ownBlock ∧ some k_ ≠ ((.slice Ao27 t329.length co27):Value).ownBlock ∧ some k_ ≠ ((.slice Ao35 t359.length co35):Value).ownBlock ∧ some k_ ≠ ((.slice Ao38 t341.length co38):Value).ownBlock ∧ some k_ ≠ ((.slice Ao43 t344.length co43):Value).ownBlock ∧ some k_ ≠ ((.slice Ao127 t371.length co127):Value).ownBlock ∧ some k_ ≠ ((.slice Ao133 t374.length co133):Value).ownBlock) (.slice Ao31 t358.length co31) t358) ∧ Aside0 (Kd.R Kd.string 9 wc w.heap.size (fun k_=>some k_ ≠ ((.slice Ao24 t326.length co24):Value).ownBlock ∧ some k_ ≠ ((.slice Ao27 t329.length co27):Value).ownBlock ∧ some k_ ≠ ((.slice Ao31 t358.length co31):Value).ownBlock ∧ some k_ ≠ ((.slice Ao38 t341.length co38):Value).ownBlock ∧ some k_ ≠ ((.slice Ao43 t344.length co43):Value).ownBlock ∧ some k_ ≠ ((.slice Ao127 t371.length co127):Value).ownBlock ∧ some k_ ≠ ((.slice Ao133 t374.length co133):Value).ownBlock) (.slice Ao35 t359.length co35) t359) ∧ Aside0 (Kd.R Kd.string 9 wc w.heap.size (fun k_=>some k_ ≠ ((.slice Ao24 t326.length co24):Value).ownBlock ∧ some k_ ≠ ((.slice Ao27 t329.length co27):Value).ownBlock ∧ some k_ ≠ ((.slice Ao31 t358.length co31):Value).ownBlock ∧ some k_ ≠ ((.slice Ao35 t359.length co35):Value).ownBlock ∧ some k_ ≠ ((.slice Ao43 t344.length co43):Value).ownBlock ∧ some k_ ≠ ((.slice Ao127 t371.length co127):Value).ownBlock ∧ some k_ ≠ ((.slice Ao133 t374.length co133):Value).ownBlock) (.slice Ao38 t341.length co38) t362) ∧ Aside0 (Kd.R Kd.string 9 wc w.heap.size (fun k_=>some k_ ≠ ((.slice Ao24 t326.length co24):Value).ownBlock ∧ some k_ ≠ ((.slice Ao27 t329.length co27):Value).ownBlock ∧ some k_ ≠ ((.slice Ao31 t358.length co31):Value).ownBlock ∧ some k_ ≠ ((.slice Ao35 t359.length co35):Value).ownBlock ∧ some k_ ≠ ((.slice Ao38 t341.length co38):Value).ownBlock ∧ some k_ ≠ ((.slice Ao127 t371.length co127):Value).ownBlock ∧ some k_ ≠ ((.slice Ao133 t374.length co133):Value).ownBlock) (.slice Ao43 t344.length co43) t363) ∧ Aside0 (Kd.R Kd.string 9 wc w.heap.size (fun k_=>some k_ ≠ ((.slice Ao24 t326.length co24):Value).ownBlock ∧ some k_ ≠ ((.slice Ao27 t329.length co27):Value).ownBlock ∧ some k_ ≠ ((.slice Ao31 t358.length co31):Value).ownBlock ∧ some k_ ≠ ((.slice Ao35 t359.length co35):Value).ownBlock ∧ some k_ ≠ ((.slice Ao38 t341.length co38):Value).ownBlock ∧ some k_ ≠ ((.slice Ao43 t344.length co43):Value).ownBlock ∧ some k_ ≠ ((.slice Ao133 t374.length co133):Value).ownBlock) (.slice Ao127 t371.length co127) t371) ∧ Aside0 (Kd.R Kd.string 9 wc w.heap.size (fun k_=>some k_ ≠ ((.slice Ao24 t326.length co24):Value).ownBlock ∧ some k_ ≠ ((.slice Ao27 t329.length co27):Value).ownBlock ∧ some k_ ≠ ((.slice Ao31 t358.length co31):Value).ownBlock ∧ some k_ ≠ ((.slice Ao35 t359.length co35):Value).ownBlock ∧ some k_ ≠ ((.slice Ao38 t341.length co38):Value).ownBlock ∧ some k_ ≠ ((.slice Ao43 t344.length co43):Value).ownBlock ∧ some k_ ≠ ((.slice Ao127 t371.length co127):Value).ownBlock) (.slice Ao133 t374.length co133) t374) ∧ Aside0 (wc.heap[gb318]? = some (.cells #[(.slice A0_0 l0_0.length c0_0),(.slice A0_1 l0_1.length c0_1)] 30 (0,0))) ∧ Aside0 (wc.heap[gb333]? = some (.cells #[(.slice Ao24 t326.length co24),(.slice Ao27 t329.length co27)] 34 (0,0))) ∧ Aside0 (wc.heap[gb340]? = some (.cells #[(.slice Ao31 t358.length co31),(.slice Ao35 t359.length co35)] 34 (0,0))) ∧ Aside0 (wc.heap[gb348]? = some (.cells #[(.slice Ao38 t341.length co38),(.slice Ao43 t344.length co43)] 34 (0,0))) ∧ Aside0 (wc.heap[gb378]? = some (.cells #[(.slice Ao127 t371.length co127),(.slice Ao133 t374.length co133)] 34 (0,0))) ∧ Aside0 (Below w.heap.size w wc))
            case first =>
             have H:=HC111.out
             clear HC111
             replace H:=Option.bind_eq_some_iff.mp H
             obtain ⟨t379,A1340,H⟩:=H
             replace H:(if t379 = true then (laws_FnExactPutText.j2 kj66 t361 (t377 != t332) t362 t363) else (laws_FnExactPutText.j2 kj66 t361 true t362 t363)) = some r:=H
             have A134:=Aside0.mk A1340
             clear A1340
             by_cases c135:t379 = true
             ·subst c135
              have H1:(laws_FnExactPutText.j2 kj66 t361 (t377 != t332) t362 t363) = some r:=by rw [if_pos rfl] at H;exact H
              clear H
              have H:=H1
              clear H1
              have H':=Aside0.mk H
              clear H
              have hnb136:=NB378_318.out
              have hnc136:=NB318_378.out
              have hnb137:=NB378_333.out
              have hnc137:=NB333_378.out
              have hnb138:=NB378_340.out
              have hnc138:=NB340_378.out
              have hnb139:=NB378_348.out
              have hnc139:=NB348_378.out
              have hcz140_0:w126.cell? ⟨gb378,0,none⟩ = some (.slice none 0 0):=(blk_cell BK378.out 0).trans rfl
              have hcz140_1:w126.cell? ⟨gb378,1,none⟩ = some (.slice none 0 0):=(blk_cell BK378.out 1).trans rfl
              have hfz140_0:=blk_frozen BK378.out 0
              have hfz140_1:=blk_frozen BK378.out 1
              have hnb141:=NB333_318.out
              have hnc141:=NB318_333.out
              have hnb142:=NB333_340.out
              have hnc142:=NB340_333.out
              have hnb143:=NB333_348.out
              have hnc143:=NB348_333.out
              have hcz144_0:w126.cell? ⟨gb333,0,none⟩ = some (.slice Ao24 t326.length co24):=(blk_cell BK333.out 0).trans rfl
              have hcz144_1:w126.cell? ⟨gb333,1,none⟩ = some (.slice Ao27 t329.length co27):=(blk_cell BK333.out 1).trans rfl
              have hfz144_0:=blk_frozen BK333.out 0
              have hfz144_1:=blk_frozen BK333.out 1
              go_wp2_with (first|((with_reducible refine gate_callee (f:=18) rfl ?_);refine goesL_ (some 89) rfl rfl Try.func18 (by kernel_rfl) rfl #[.agg #[.slice Ao127 t371.length co127,.slice Ao133 t374.length co133],.agg #[.slice Ao24 t326.length co24,.slice Ao27 t329.length co27]] rfl (by (try simp only [List.map_toArray,List.map_cons,List.map_nil]);first|done|rfl|(simp only [List.length_drop,List.length_take];rfl)) ?_;(with_reducible refine (laws_eqDisk.calls kj66 _ _ t371 _ _ t374 _ _ t326 _ _ t329 true _ ?side1 ?side2 ?side3 ?side4 ?side5 ?side6 ?side7 ?side8 A134.out).mono ?_);(case side1=>refine (Kd.R_reads' (e:=9) (base:=w.heap.size) (ok:=fun k_=>((((((((some k_ ≠ (.slice Ao133 t374.length co133:Value).ownBlock ∧ some k_ ≠ (.slice Ao24 t326.length co24:Value).ownBlock) ∧ some k_ ≠ (.slice Ao27 t329.length co27:Value).ownBlock) ∧ some k_ ≠ (.slice Ao31 t358.length co31:Value).ownBlock) ∧ some k_ ≠ (.slice Ao35 t359.length co35:Value).ownBlock) ∧ some k_ ≠ (.slice Ao38 t341.length co38:Value).ownBlock) ∧ some k_ ≠ (.slice Ao43 t344.length co43:Value).ownBlock) ∧ some k_ ≠ (.slice Ao123 t365.length co123:Value).ownBlock) ∧ some k_ ≠ (.slice Ao124 t368.length co124:Value).ownBlock)) (n:=t371.length) (c:=co127) ?_).2.2;exact (by (with_reducible repeat (first|apply Kd.R_alloc));exact (Kd.R_mono (Kd.R_far (p:=⟨gb378,1,none⟩) (Kd.R_far (p:=⟨gb378,0,none⟩) (Kd.R_types HO373.out BK378.out (by decide)) (fun _ hk=>hk.2) (.slice Ao127 t371.length co127)) (fun _ hk=>hk.2) (.slice Ao133 t374.length co133)) (fun _ h_=>h_.1))));(case side2=>exact (Kd.R_reads' HO373.out).2.1);(case side3=>refine (Kd.R_reads' (e:=9) (base:=w.heap.size) (ok:=fun k_=>((((((((some k_ ≠ (.slice Ao127 t371.length co127:Value).ownBlock ∧ some k_ ≠ (.slice Ao24 t326.length co24:Value).ownBlock) ∧ some k_ ≠ (.slice Ao27 t329.length co27:Value).ownBlock) ∧ some k_ ≠ (.slice Ao31 t358.length co31:Value).ownBlock) ∧ some k_ ≠ (.slice Ao35 t359.length co35:Value).ownBlock) ∧ some k_ ≠ (.slice Ao38 t341.length co38:Value).ownBlock) ∧ some k_ ≠ (.slice Ao43 t344.length co43:Value).ownBlock) ∧ some k_ ≠ (.slice Ao123 t365.length co123:Value).ownBlock) ∧ some k_ ≠ (.slice Ao124 t368.length co124:Value).ownBlock)) (n:=t374.length) (c:=co133) ?_).2.2;exact (by (with_reducible repeat (first|apply Kd.R_alloc));exact (Kd.R_mono (Kd.R_far (p:=⟨gb378,1,none⟩) (Kd.R_far (p:=⟨gb378,0,none⟩) (Kd.R_types HO376.out BK378.out (by decide)) (fun _ hk=>hk.2) (.slice Ao127 t371.length co127)) (fun _ hk=>hk.2) (.slice Ao133 t374.length co133)) (fun _ h_=>h_.1))));(case side4=>exact (Kd.R_reads' HO376.out).2.1);(case side5=>refine (Kd.R_reads' (e:=9) (base:=w.heap.size) (ok:=fun k_=>(((((some k_ ≠ (.slice Ao27 t329.length co27:Value).ownBlock ∧ (some k_ ≠ (.slice Ao31 t358.length co31:Value).ownBlock ∧ (some k_ ≠ (.slice Ao35 t359.length co35:Value).ownBlock ∧ (some k_ ≠ (.slice Ao38 t341.length co38:Value).ownBlock ∧ some k_ ≠ (.slice Ao43 t344.length co43:Value).ownBlock)))) ∧ some k_ ≠ (.slice Ao123 t365.length co123:Value).ownBlock) ∧ some k_ ≠ (.slice Ao124 t368.length co124:Value).ownBlock) ∧ some k_ ≠ (.slice Ao127 t371.length co127:Value).ownBlock) ∧ some k_ ≠ (.slice Ao133 t374.length co133:Value).ownBlock)) (n:=t326.length) (c:=co24) ?_).2.2;exact (by (with_reducible repeat (first|apply Kd.R_alloc));exact (Kd.R_mono (Kd.R_far (p:=⟨gb378,1,none⟩) (Kd.R_far (p:=⟨gb378,0,none⟩) (Kd.R_types HO_334000.out BK378.out (by decide)) (fun _ hk=>hk.2) (.slice Ao127 t371.length co127)) (fun _ hk=>hk.2) (.slice Ao133 t374.length co133)) (fun _ h_=>h_.1))));(case side6=>exact (Kd.R_reads' HO_334000.out).2.1);(case side7=>refine (Kd.R_reads' (e:=9) (base:=w.heap.size) (ok:=fun k_=>(((((some k_ ≠ (.slice Ao24 t326.length co24:Value).ownBlock ∧ (some k_ ≠ (.slice Ao31 t358.length co31:Value).ownBlock ∧ (some k_ ≠ (.slice Ao35 t359.length co35:Value).ownBlock ∧ (some k_ ≠ (.slice Ao38 t341.length co38:Value).ownBlock ∧ some k_ ≠ (.slice Ao43 t344.length co43:Value).ownBlock)))) ∧ some k_ ≠ (.slice Ao123 t365.length co123:Value).ownBlock) ∧ some k_ ≠ (.slice Ao124 t368.length co124:Value).ownBlock) ∧ some k_ ≠ (.slice Ao127 t371.length co127:Value).ownBlock) ∧ some k_ ≠ (.slice Ao133 t374.length co133:Value).ownBlock)) (n:=t329.length) (c:=co27) ?_).2.2;exact (by (with_reducible repeat (first|apply Kd.R_alloc));exact (Kd.R_mono (Kd.R_far (p:=⟨gb378,1,none⟩) (Kd.R_far (p:=⟨gb378,0,none⟩) (Kd.R_types HO_334001.out BK378.out (by decide)) (fun _ hk=>hk.2) (.slice Ao127 t371.length co127)) (fun _ hk=>hk.2) (.slice Ao133 t374.length co133)) (fun _ h_=>h_.1))));(case side8=>exact (Kd.R_reads' HO_334001.out).2.1);rintro e w145 ⟨rfl,hb⟩;refine ⟨_,rfl,?_⟩;have n0_:=Aside0.mk (Kd.R_below (by (with_reducible repeat (first|apply Kd.R_alloc));exact (Kd.R_mono (Kd.R_far (p:=⟨gb378,1,none⟩) (Kd.R_far (p:=⟨gb378,0,none⟩) (Kd.R_types HO_334000.out BK378.out (by decide)) (fun _ hk=>hk.2) (.slice Ao127 t371.length co127)) (fun _ hk=>hk.2) (.slice Ao133 t374.length co133)) (fun _ h_=>h_.1))) hb);have n1_:=Aside0.mk (Kd.R_below (by (with_reducible repeat (first|apply Kd.R_alloc));exact (Kd.R_mono (Kd.R_far (p:=⟨gb378,1,none⟩) (Kd.R_far (p:=⟨gb378,0,none⟩) (Kd.R_types HO_334001.out BK378.out (by decide)) (fun _ hk=>hk.2) (.slice Ao127 t371.length co127)) (fun _ hk=>hk.2) (.slice Ao133 t374.length co133)) (fun _ h_=>h_.1))) hb);have n2_:=Aside0.mk (Kd.R_below (by (with_reducible repeat (first|apply Kd.R_alloc));exact (Kd.R_mono (Kd.R_far (p:=⟨gb378,1,none⟩) (Kd.R_far (p:=⟨gb378,0,none⟩) (Kd.R_types HO_341000.out BK378.out (by decide)) (fun _ hk=>hk.2) (.slice Ao127 t371.length co127)) (fun _ hk=>hk.2) (.slice Ao133 t374.length co133)) (fun _ h_=>h_.1))) hb);have n3_:=Aside0.mk (Kd.R_below (by (with_reducible repeat (first|apply Kd.R_alloc));exact (Kd.R_mono (Kd.R_far (p:=⟨gb378,1,none⟩) (Kd.R_far (p:=⟨gb378,0,none⟩) (Kd.R_types HO_341001.out BK378.out (by decide)) (fun _ hk=>hk.2) (.slice Ao127 t371.length co127)) (fun _ hk=>hk.2) (.slice Ao133 t374.length co133)) (fun _ h_=>h_.1))) hb);have n4_:=Aside0.mk (Kd.R_below (by (with_reducible repeat (first|apply Kd.R_alloc));exact (Kd.R_mono (Kd.R_far (p:=⟨gb378,1,none⟩) (Kd.R_far (p:=⟨gb378,0,none⟩) (Kd.R_types HO_349000.out BK378.out (by decide)) (fun _ hk=>hk.2) (.slice Ao127 t371.length co127)) (fun _ hk=>hk.2) (.slice Ao133 t374.length co133)) (fun _ h_=>h_.1))) hb);have n5_:=Aside0.mk (Kd.R_below (by (with_reducible repeat (first|apply Kd.R_alloc));exact (Kd.R_mono (Kd.R_far (p:=⟨gb378,1,none⟩) (Kd.R_far (p:=⟨gb378,0,none⟩) (Kd.R_types HO_349001.out BK378.out (by decide)) (fun _ hk=>hk.2) (.slice Ao127 t371.length co127)) (fun _ hk=>hk.2) (.slice Ao133 t374.length co133)) (fun _ h_=>h_.1))) hb);have n6_:=Aside0.mk (Kd.R_below (by (with_reducible repeat (first|apply Kd.R_alloc));exact (Kd.R_mono (Kd.R_far (p:=⟨gb378,1,none⟩) (Kd.R_far (p:=⟨gb378,0,none⟩) (Kd.R_types HO367.out BK378.out (by decide)) (fun _ hk=>hk.2) (.slice Ao127 t371.length co127)) (fun _ hk=>hk.2) (.slice Ao133 t374.length co133)) (fun _ h_=>h_.1))) hb);have n7_:=Aside0.mk (Kd.R_below (by (with_reducible repeat (first|apply Kd.R_alloc));exact (Kd.R_mono (Kd.R_far (p:=⟨gb378,1,none⟩) (Kd.R_far (p:=⟨gb378,0,none⟩) (Kd.R_types HO370.out BK378.out (by decide)) (fun _ hk=>hk.2) (.slice Ao127 t371.length co127)) (fun _ hk=>hk.2) (.slice Ao133 t374.length co133)) (fun _ h_=>h_.1))) hb);have n8_:=Aside0.mk (Kd.R_below (by (with_reducible repeat (first|apply Kd.R_alloc));exact (Kd.R_mono (Kd.R_far (p:=⟨gb378,1,none⟩) (Kd.R_far (p:=⟨gb378,0,none⟩) (Kd.R_types HO373.out BK378.out (by decide)) (fun _ hk=>hk.2) (.slice Ao127 t371.length co127)) (fun _ hk=>hk.2) (.slice Ao133 t374.length co133)) (fun _ h_=>h_.1))) hb);have n9_:=Aside0.mk (Kd.R_below (by (with_reducible repeat (first|apply Kd.R_alloc));exact (Kd.R_mono (Kd.R_far (p:=⟨gb378,1,none⟩) (Kd.R_far (p:=⟨gb378,0,none⟩) (Kd.R_types HO376.out BK378.out (by decide)) (fun _ hk=>hk.2) (.slice Ao127 t371.length co127)) (fun _ hk=>hk.2) (.slice Ao133 t374.length co133)) (fun _ h_=>h_.1))) hb);have n10_:=Aside0.mk (blk_below (g:=gb318) (o:=.cells #[.slice A0_0 l0_0.length c0_0,.slice A0_1 l0_1.length c0_1] 30 (0,0)) (by (with_reducible repeat (refine blk_alloc ?_ _));refine blk_far ?_ NB318_378.out _;(with_reducible repeat (refine blk_alloc ?_ _));refine blk_far ?_ NB318_378.out _;(with_reducible repeat (refine blk_alloc ?_ _));exact BK318.out) hb);have n11_:=Aside0.mk (blk_below (g:=gb333) (o:=.cells #[.slice Ao24 t326.length co24,.slice Ao27 t329.length co27] 34 (0,0)) (by (with_reducible repeat (refine blk_alloc ?_ _));refine blk_far ?_ NB333_378.out _;(with_reducible repeat (refine blk_alloc ?_ _));refine blk_far ?_ NB333_378.out _;(with_reducible repeat (refine blk_alloc ?_ _));exact BK333.out) hb);have n12_:=Aside0.mk (blk_below (g:=gb340) (o:=.cells #[.slice Ao31 t358.length co31,.slice Ao35 t359.length co35] 34 (0,0)) (by (with_reducible repeat (refine blk_alloc ?_ _));refine blk_far ?_ NB340_378.out _;(with_reducible repeat (refine blk_alloc ?_ _));refine blk_far ?_ NB340_378.out _;(with_reducible repeat (refine blk_alloc ?_ _));exact BK340.out) hb);have n13_:=Aside0.mk (blk_below (g:=gb348) (o:=.cells #[.slice Ao38 t341.length co38,.slice Ao43 t344.length co43] 34 (0,0)) (by (with_reducible repeat (refine blk_alloc ?_ _));refine blk_far ?_ NB348_378.out _;(with_reducible repeat (refine blk_alloc ?_ _));refine blk_far ?_ NB348_378.out _;(with_reducible repeat (refine blk_alloc ?_ _));exact BK348.out) hb);have n14_:=Aside0.mk (blk_below (g:=gb378) (o:=.cells #[.slice Ao127 t371.length co127,.slice Ao133 t374.length co133] 34 (0,0)) (by (with_reducible repeat (refine blk_alloc ?_ _));refine blk_put (cs:=#[.slice Ao127 t371.length co127,.slice none 0 0]) ?_ 1 _ rfl;(with_reducible repeat (refine blk_alloc ?_ _));refine blk_put (cs:=#[.slice none 0 0,.slice none 0 0]) ?_ 0 _ rfl;(with_reducible repeat (refine blk_alloc ?_ _));exact BK378.out) hb);have n15_:=Aside0.mk (below_step (by repeat (first|(with_reducible first|exact HB.out|apply below_alloc|refine below_set ?_ GE318.out|refine below_set ?_ GE333.out|refine below_set ?_ GE340.out|refine below_set ?_ GE348.out|refine below_set ?_ GE378.out)|exact HB.out)) hb);clear HO_334000;clear HO_334001;clear HO_341000;clear HO_341001;clear HO_349000;clear HO_349001;clear HO367;clear HO370;clear HO373;clear HO376;clear BK318;clear BK333;clear BK340;clear BK348;clear BK378;clear HB;have HO_334000:=n0_;have HO_334001:=n1_;have HO_341000:=n2_;have HO_341001:=n3_;have HO_349000:=n4_;have HO_349001:=n5_;have HO367:=n6_;have HO370:=n7_;have HO373:=n8_;have HO376:=n9_;have BK318:=n10_;have BK333:=n11_;have BK340:=n12_;have BK348:=n13_;have BK378:=n14_;have HB:=n15_;clear n0_ n1_ n2_ n3_ n4_ n5_ n6_ n7_ n8_ n9_ n10_ n11_ n12_ n13_ n14_ n15_;(try clear hb);(try clear hb2);(try clear hk);(try clear hi)))
              go_meet
              case rel=>exact ⟨_,((t377 != t332)),(by first|rfl|(simp;done)|(simp [*];done)),H',⟨by have:=HJ13.out;have:=HJ66.out;first|omega|exact Nat.le_refl _⟩,⟨by (try simp only [hl341000_66]);(try simp only [hl341001_66]);(with_reducible repeat (first|apply Kd.R_alloc));exact Kd.R_mono HO_334000.out (fun _ hk=>⟨hk.1.1.1.1.1,⟨hk.1.1.1.1.2.1,⟨hk.1.1.1.1.2.2.1,⟨hk.1.1.1.1.2.2.2.1,⟨hk.1.1.1.1.2.2.2.2,⟨hk.1.2,hk.2⟩⟩⟩⟩⟩⟩)⟩,⟨by (try simp only [hl341000_66]);(try simp only [hl341001_66]);(with_reducible repeat (first|apply Kd.R_alloc));exact Kd.R_mono HO_334001.out (fun _ hk=>⟨hk.1.1.1.1.1,⟨hk.1.1.1.1.2.1,⟨hk.1.1.1.1.2.2.1,⟨hk.1.1.1.1.2.2.2.1,⟨hk.1.1.1.1.2.2.2.2,⟨hk.1.2,hk.2⟩⟩⟩⟩⟩⟩)⟩,⟨by (try simp only [hl341000_66]);(try simp only [hl341001_66]);(with_reducible repeat (first|apply Kd.R_alloc));exact Kd.R_mono HO_341000.out (fun _ hk=>⟨hk.1.1.1.1.1,⟨hk.1.1.1.1.2.1,⟨hk.1.1.1.1.2.2.1,⟨hk.1.1.1.1.2.2.2.1,⟨hk.1.1.1.1.2.2.2.2,⟨hk.1.2,hk.2⟩⟩⟩⟩⟩⟩)⟩,⟨by (try simp only [hl341000_66]);(try simp only [hl341001_66]);(with_reducible repeat (first|apply Kd.R_alloc));exact Kd.R_mono HO_341001.out (fun _ hk=>⟨hk.1.1.1.1.1,⟨hk.1.1.1.1.2.1,⟨hk.1.1.1.1.2.2.1,⟨hk.1.1.1.1.2.2.2.1,⟨hk.1.1.1.1.2.2.2.2,⟨hk.1.2,hk.2⟩⟩⟩⟩⟩⟩)⟩,⟨by (try simp only [hl341000_66]);(try simp only [hl341001_66]);(with_reducible repeat (first|apply Kd.R_alloc));exact Kd.R_mono HO_349000.out (fun _ hk=>⟨hk.1.1.1.1.1,⟨hk.1.1.1.1.2.1,⟨hk.1.1.1.1.2.2.1,⟨hk.1.1.1.1.2.2.2.1,⟨hk.1.1.1.1.2.2.2.2,⟨hk.1.2,hk.2⟩⟩⟩⟩⟩⟩)⟩,⟨by (try simp only [hl341000_66]);(try simp only [hl341001_66]);(with_reducible repeat (first|apply Kd.R_alloc));exact Kd.R_mono HO_349001.out (fun _ hk=>⟨hk.1.1.1.1.1,⟨hk.1.1.1.1.2.1,⟨hk.1.1.1.1.2.2.1,⟨hk.1.1.1.1.2.2.2.1,⟨hk.1.1.1.1.2.2.2.2,⟨hk.1.2,hk.2⟩⟩⟩⟩⟩⟩)⟩,⟨by (try simp only [hl341000_66]);(try simp only [hl341001_66]);(with_reducible repeat (first|apply Kd.R_alloc));exact Kd.R_mono HO373.out (fun _ hk=>⟨hk.1.1.1.1.1.1.1.2,⟨hk.1.1.1.1.1.1.2,⟨hk.1.1.1.1.1.2,⟨hk.1.1.1.1.2,⟨hk.1.1.1.2,⟨hk.1.1.2,hk.1.1.1.1.1.1.1.1⟩⟩⟩⟩⟩⟩)⟩,⟨by (try simp only [hl341000_66]);(try simp only [hl341001_66]);(with_reducible repeat (first|apply Kd.R_alloc));exact Kd.R_mono HO376.out (fun _ hk=>⟨hk.1.1.1.1.1.1.1.2,⟨hk.1.1.1.1.1.1.2,⟨hk.1.1.1.1.1.2,⟨hk.1.1.1.1.2,⟨hk.1.1.1.2,⟨hk.1.1.2,hk.1.1.1.1.1.1.1.1⟩⟩⟩⟩⟩⟩)⟩,⟨by (try simp only [hl341000_66]);(try simp only [hl341001_66]);(with_reducible repeat (refine blk_alloc ?_ _));exact BK318.out⟩,⟨by (try simp only [hl341000_66]);(try simp only [hl341001_66]);(with_reducible repeat (refine blk_alloc ?_ _));exact BK333.out⟩,⟨by (try simp only [hl341000_66]);(try simp only [hl341001_66]);(with_reducible repeat (refine blk_alloc ?_ _));exact BK340.out⟩,⟨by (try simp only [hl341000_66]);(try simp only [hl341001_66]);(with_reducible repeat (refine blk_alloc ?_ _));exact BK348.out⟩,⟨by (try simp only [hl341000_66]);(try simp only [hl341001_66]);(with_reducible repeat (refine blk_alloc ?_ _));exact BK378.out⟩,⟨by repeat (first|(with_reducible first|exact HB.out|apply below_alloc|refine below_set ?_ GE318.out|refine below_set ?_ GE333.out|refine below_set ?_ GE340.out|refine below_set ?_ GE348.out|refine below_set ?_ GE378.out)|exact HB.out)⟩⟩
             ·replace c135:=Bool.eq_false_iff.mpr c135
              subst c135
              have H1:(laws_FnExactPutText.j2 kj66 t361 true t362 t363) = some r:=by rw [if_neg (show ¬ (false = true) by decide)] at H;exact H
              clear H
              have H:=H1
              clear H1
              have H':=Aside0.mk H
              clear H
              have hnb146:=NB378_318.out
              have hnc146:=NB318_378.out
              have hnb147:=NB378_333.out
              have hnc147:=NB333_378.out
              have hnb148:=NB378_340.out
              have hnc148:=NB340_378.out
              have hnb149:=NB378_348.out
              have hnc149:=NB348_378.out
              have hcz150_0:w126.cell? ⟨gb378,0,none⟩ = some (.slice none 0 0):=(blk_cell BK378.out 0).trans rfl
              have hcz150_1:w126.cell? ⟨gb378,1,none⟩ = some (.slice none 0 0):=(blk_cell BK378.out 1).trans rfl
              have hfz150_0:=blk_frozen BK378.out 0
              have hfz150_1:=blk_frozen BK378.out 1
              have hnb151:=NB333_318.out
              have hnc151:=NB318_333.out
              have hnb152:=NB333_340.out
              have hnc152:=NB340_333.out
              have hnb153:=NB333_348.out
              have hnc153:=NB348_333.out
              have hcz154_0:w126.cell? ⟨gb333,0,none⟩ = some (.slice Ao24 t326.length co24):=(blk_cell BK333.out 0).trans rfl
              have hcz154_1:w126.cell? ⟨gb333,1,none⟩ = some (.slice Ao27 t329.length co27):=(blk_cell BK333.out 1).trans rfl
              have hfz154_0:=blk_frozen BK333.out 0
              have hfz154_1:=blk_frozen BK333.out 1
              go_wp2_with (first|((with_reducible refine gate_callee (f:=18) rfl ?_);refine goesL_ (some 89) rfl rfl Try.func18 (by kernel_rfl) rfl #[.agg #[.slice Ao127 t371.length co127,.slice Ao133 t374.length co133],.agg #[.slice Ao24 t326.length co24,.slice Ao27 t329.length co27]] rfl (by (try simp only [List.map_toArray,List.map_cons,List.map_nil]);first|done|rfl|(simp only [List.length_drop,List.length_take];rfl)) ?_;(with_reducible refine (laws_eqDisk.calls kj66 _ _ t371 _ _ t374 _ _ t326 _ _ t329 false _ ?side1 ?side2 ?side3 ?side4 ?side5 ?side6 ?side7 ?side8 A134.out).mono ?_);(case side1=>refine (Kd.R_reads' (e:=9) (base:=w.heap.size) (ok:=fun k_=>((((((((some k_ ≠ (.slice Ao133 t374.length co133:Value).ownBlock ∧ some k_ ≠ (.slice Ao24 t326.length co24:Value).ownBlock) ∧ some k_ ≠ (.slice Ao27 t329.length co27:Value).ownBlock) ∧ some k_ ≠ (.slice Ao31 t358.length co31:Value).ownBlock) ∧ some k_ ≠ (.slice Ao35 t359.length co35:Value).ownBlock) ∧ some k_ ≠ (.slice Ao38 t341.length co38:Value).ownBlock) ∧ some k_ ≠ (.slice Ao43 t344.length co43:Value).ownBlock) ∧ some k_ ≠ (.slice Ao123 t365.length co123:Value).ownBlock) ∧ some k_ ≠ (.slice Ao124 t368.length co124:Value).ownBlock)) (n:=t371.length) (c:=co127) ?_).2.2;exact (by (with_reducible repeat (first|apply Kd.R_alloc));exact (Kd.R_mono (Kd.R_far (p:=⟨gb378,1,none⟩) (Kd.R_far (p:=⟨gb378,0,none⟩) (Kd.R_types HO373.out BK378.out (by decide)) (fun _ hk=>hk.2) (.slice Ao127 t371.length co127)) (fun _ hk=>hk.2) (.slice Ao133 t374.length co133)) (fun _ h_=>h_.1))));(case side2=>exact (Kd.R_reads' HO373.out).2.1);(case side3=>refine (Kd.R_reads' (e:=9) (base:=w.heap.size) (ok:=fun k_=>((((((((some k_ ≠ (.slice Ao127 t371.length co127:Value).ownBlock ∧ some k_ ≠ (.slice Ao24 t326.length co24:Value).ownBlock) ∧ some k_ ≠ (.slice Ao27 t329.length co27:Value).ownBlock) ∧ some k_ ≠ (.slice Ao31 t358.length co31:Value).ownBlock) ∧ some k_ ≠ (.slice Ao35 t359.length co35:Value).ownBlock) ∧ some k_ ≠ (.slice Ao38 t341.length co38:Value).ownBlock) ∧ some k_ ≠ (.slice Ao43 t344.length co43:Value).ownBlock) ∧ some k_ ≠ (.slice Ao123 t365.length co123:Value).ownBlock) ∧ some k_ ≠ (.slice Ao124 t368.length co124:Value).ownBlock)) (n:=t374.length) (c:=co133) ?_).2.2;exact (by (with_reducible repeat (first|apply Kd.R_alloc));exact (Kd.R_mono (Kd.R_far (p:=⟨gb378,1,none⟩) (Kd.R_far (p:=⟨gb378,0,none⟩) (Kd.R_types HO376.out BK378.out (by decide)) (fun _ hk=>hk.2) (.slice Ao127 t371.length co127)) (fun _ hk=>hk.2) (.slice Ao133 t374.length co133)) (fun _ h_=>h_.1))));(case side4=>exact (Kd.R_reads' HO376.out).2.1);(case side5=>refine (Kd.R_reads' (e:=9) (base:=w.heap.size) (ok:=fun k_=>(((((some k_ ≠ (.slice Ao27 t329.length co27:Value).ownBlock ∧ (some k_ ≠ (.slice Ao31 t358.length co31:Value).ownBlock ∧ (some k_ ≠ (.slice Ao35 t359.length co35:Value).ownBlock ∧ (some k_ ≠ (.slice Ao38 t341.length co38:Value).ownBlock ∧ some k_ ≠ (.slice Ao43 t344.length co43:Value).ownBlock)))) ∧ some k_ ≠ (.slice Ao123 t365.length co123:Value).ownBlock) ∧ some k_ ≠ (.slice Ao124 t368.length co124:Value).ownBlock) ∧ some k_ ≠ (.slice Ao127 t371.length co127:Value).ownBlock) ∧ some k_ ≠ (.slice Ao133 t374.length co133:Value).ownBlock)) (n:=t326.length) (c:=co24) ?_).2.2;exact (by (with_reducible repeat (first|apply Kd.R_alloc));exact (Kd.R_mono (Kd.R_far (p:=⟨gb378,1,none⟩) (Kd.R_far (p:=⟨gb378,0,none⟩) (Kd.R_types HO_334000.out BK378.out (by decide)) (fun _ hk=>hk.2) (.slice Ao127 t371.length co127)) (fun _ hk=>hk.2) (.slice Ao133 t374.length co133)) (fun _ h_=>h_.1))));(case side6=>exact (Kd.R_reads' HO_334000.out).2.1);(case side7=>refine (Kd.R_reads' (e:=9) (base:=w.heap.size) (ok:=fun k_=>(((((some k_ ≠ (.slice Ao24 t326.length co24:Value).ownBlock ∧ (some k_ ≠ (.slice Ao31 t358.length co31:Value).ownBlock ∧ (some k_ ≠ (.slice Ao35 t359.length co35:Value).ownBlock ∧ (some k_ ≠ (.slice Ao38 t341.length co38:Value).ownBlock ∧ some k_ ≠ (.slice Ao43 t344.length co43:Value).ownBlock)))) ∧ some k_ ≠ (.slice Ao123 t365.length co123:Value).ownBlock) ∧ some k_ ≠ (.slice Ao124 t368.length co124:Value).ownBlock) ∧ some k_ ≠ (.slice Ao127 t371.length co127:Value).ownBlock) ∧ some k_ ≠ (.slice Ao133 t374.length co133:Value).ownBlock)) (n:=t329.length) (c:=co27) ?_).2.2;exact (by (with_reducible repeat (first|apply Kd.R_alloc));exact (Kd.R_mono (Kd.R_far (p:=⟨gb378,1,none⟩) (Kd.R_far (p:=⟨gb378,0,none⟩) (Kd.R_types HO_334001.out BK378.out (by decide)) (fun _ hk=>hk.2) (.slice Ao127 t371.length co127)) (fun _ hk=>hk.2) (.slice Ao133 t374.length co133)) (fun _ h_=>h_.1))));(case side8=>exact (Kd.R_reads' HO_334001.out).2.1);rintro e w155 ⟨rfl,hb⟩;refine ⟨_,rfl,?_⟩;have n0_:=Aside0.mk (Kd.R_below (by (with_reducible repeat (first|apply Kd.R_alloc));exact (Kd.R_mono (Kd.R_far (p:=⟨gb378,1,none⟩) (Kd.R_far (p:=⟨gb378,0,none⟩) (Kd.R_types HO_334000.out BK378.out (by decide)) (fun _ hk=>hk.2) (.slice Ao127 t371.length co127)) (fun _ hk=>hk.2) (.slice Ao133 t374.length co133)) (fun _ h_=>h_.1))) hb);have n1_:=Aside0.mk (Kd.R_below (by (with_reducible repeat (first|apply Kd.R_alloc));exact (Kd.R_mono (Kd.R_far (p:=⟨gb378,1,none⟩) (Kd.R_far (p:=⟨gb378,0,none⟩) (Kd.R_types HO_334001.out BK378.out (by decide)) (fun _ hk=>hk.2) (.slice Ao127 t371.length co127)) (fun _ hk=>hk.2) (.slice Ao133 t374.length co133)) (fun _ h_=>h_.1))) hb);have n2_:=Aside0.mk (Kd.R_below (by (with_reducible repeat (first|apply Kd.R_alloc));exact (Kd.R_mono (Kd.R_far (p:=⟨gb378,1,none⟩) (Kd.R_far (p:=⟨gb378,0,none⟩) (Kd.R_types HO_341000.out BK378.out (by decide)) (fun _ hk=>hk.2) (.slice Ao127 t371.length co127)) (fun _ hk=>hk.2) (.slice Ao133 t374.length co133)) (fun _ h_=>h_.1))) hb);have n3_:=Aside0.mk (Kd.R_below (by (with_reducible repeat (first|apply Kd.R_alloc));exact (Kd.R_mono (Kd.R_far (p:=⟨gb378,1,none⟩) (Kd.R_far (p:=⟨gb378,0,none⟩) (Kd.R_types HO_341001.out BK378.out (by decide)) (fun _ hk=>hk.2) (.slice Ao127 t371.length co127)) (fun _ hk=>hk.2) (.slice Ao133 t374.length co133)) (fun _ h_=>h_.1))) hb);have n4_:=Aside0.mk (Kd.R_below (by (with_reducible repeat (first|apply Kd.R_alloc));exact (Kd.R_mono (Kd.R_far (p:=⟨gb378,1,none⟩) (Kd.R_far (p:=⟨gb378,0,none⟩) (Kd.R_types HO_349000.out BK378.out (by decide)) (fun _ hk=>hk.2) (.slice Ao127 t371.length co127)) (fun _ hk=>hk.2) (.slice Ao133 t374.length co133)) (fun _ h_=>h_.1))) hb);have n5_:=Aside0.mk (Kd.R_below (by (with_reducible repeat (first|apply Kd.R_alloc));exact (Kd.R_mono (Kd.R_far (p:=⟨gb378,1,none⟩) (Kd.R_far (p:=⟨gb378,0,none⟩) (Kd.R_types HO_349001.out BK378.out (by decide)) (fun _ hk=>hk.2) (.slice Ao127 t371.length co127)) (fun _ hk=>hk.2) (.slice Ao133 t374.length co133)) (fun _ h_=>h_.1))) hb);have n6_:=Aside0.mk (Kd.R_below (by (with_reducible repeat (first|apply Kd.R_alloc));exact (Kd.R_mono (Kd.R_far (p:=⟨gb378,1,none⟩) (Kd.R_far (p:=⟨gb378,0,none⟩) (Kd.R_types HO367.out BK378.out (by decide)) (fun _ hk=>hk.2) (.slice Ao127 t371.length co127)) (fun _ hk=>hk.2) (.slice Ao133 t374.length co133)) (fun _ h_=>h_.1))) hb);have n7_:=Aside0.mk (Kd.R_below (by (with_reducible repeat (first|apply Kd.R_alloc));exact (Kd.R_mono (Kd.R_far (p:=⟨gb378,1,none⟩) (Kd.R_far (p:=⟨gb378,0,none⟩) (Kd.R_types HO370.out BK378.out (by decide)) (fun _ hk=>hk.2) (.slice Ao127 t371.length co127)) (fun _ hk=>hk.2) (.slice Ao133 t374.length co133)) (fun _ h_=>h_.1))) hb);have n8_:=Aside0.mk (Kd.R_below (by (with_reducible repeat (first|apply Kd.R_alloc));exact (Kd.R_mono (Kd.R_far (p:=⟨gb378,1,none⟩) (Kd.R_far (p:=⟨gb378,0,none⟩) (Kd.R_types HO373.out BK378.out (by decide)) (fun _ hk=>hk.2) (.slice Ao127 t371.length co127)) (fun _ hk=>hk.2) (.slice Ao133 t374.length co133)) (fun _ h_=>h_.1))) hb);have n9_:=Aside0.mk (Kd.R_below (by (with_reducible repeat (first|apply Kd.R_alloc));exact (Kd.R_mono (Kd.R_far (p:=⟨gb378,1,none⟩) (Kd.R_far (p:=⟨gb378,0,none⟩) (Kd.R_types HO376.out BK378.out (by decide)) (fun _ hk=>hk.2) (.slice Ao127 t371.length co127)) (fun _ hk=>hk.2) (.slice Ao133 t374.length co133)) (fun _ h_=>h_.1))) hb);have n10_:=Aside0.mk (blk_below (g:=gb318) (o:=.cells #[.slice A0_0 l0_0.length c0_0,.slice A0_1 l0_1.length c0_1] 30 (0,0)) (by (with_reducible repeat (refine blk_alloc ?_ _));refine blk_far ?_ NB318_378.out _;(with_reducible repeat (refine blk_alloc ?_ _));refine blk_far ?_ NB318_378.out _;(with_reducible repeat (refine blk_alloc ?_ _));exact BK318.out) hb);have n11_:=Aside0.mk (blk_below (g:=gb333) (o:=.cells #[.slice Ao24 t326.length co24,.slice Ao27 t329.length co27] 34 (0,0)) (by (with_reducible repeat (refine blk_alloc ?_ _));refine blk_far ?_ NB333_378.out _;(with_reducible repeat (refine blk_alloc ?_ _));refine blk_far ?_ NB333_378.out _;(with_reducible repeat (refine blk_alloc ?_ _));exact BK333.out) hb);have n12_:=Aside0.mk (blk_below (g:=gb340) (o:=.cells #[.slice Ao31 t358.length co31,.slice Ao35 t359.length co35] 34 (0,0)) (by (with_reducible repeat (refine blk_alloc ?_ _));refine blk_far ?_ NB340_378.out _;(with_reducible repeat (refine blk_alloc ?_ _));refine blk_far ?_ NB340_378.out _;(with_reducible repeat (refine blk_alloc ?_ _));exact BK340.out) hb);have n13_:=Aside0.mk (blk_below (g:=gb348) (o:=.cells #[.slice Ao38 t341.length co38,.slice Ao43 t344.length co43] 34 (0,0)) (by (with_reducible repeat (refine blk_alloc ?_ _));refine blk_far ?_ NB348_378.out _;(with_reducible repeat (refine blk_alloc ?_ _));refine blk_far ?_ NB348_378.out _;(with_reducible repeat (refine blk_alloc ?_ _));exact BK348.out) hb);have n14_:=Aside0.mk (blk_below (g:=gb378) (o:=.cells #[.slice Ao127 t371.length co127,.slice Ao133 t374.length co133] 34 (0,0)) (by (with_reducible repeat (refine blk_alloc ?_ _));refine blk_put (cs:=#[.slice Ao127 t371.length co127,.slice none 0 0]) ?_ 1 _ rfl;(with_reducible repeat (refine blk_alloc ?_ _));refine blk_put (cs:=#[.slice none 0 0,.slice none 0 0]) ?_ 0 _ rfl;(with_reducible repeat (refine blk_alloc ?_ _));exact BK378.out) hb);have n15_:=Aside0.mk (below_step (by repeat (first|(with_reducible first|exact HB.out|apply below_alloc|refine below_set ?_ GE318.out|refine below_set ?_ GE333.out|refine below_set ?_ GE340.out|refine below_set ?_ GE348.out|refine below_set ?_ GE378.out)|exact HB.out)) hb);clear HO_334000;clear HO_334001;clear HO_341000;clear HO_341001;clear HO_349000;clear HO_349001;clear HO367;clear HO370;clear HO373;clear HO376;clear BK318;clear BK333;clear BK340;clear BK348;clear BK378;clear HB;have HO_334000:=n0_;have HO_334001:=n1_;have HO_341000:=n2_;have HO_341001:=n3_;have HO_349000:=n4_;have HO_349001:=n5_;have HO367:=n6_;have HO370:=n7_;have HO373:=n8_;have HO376:=n9_;have BK318:=n10_;have BK333:=n11_;have BK340:=n12_;have BK348:=n13_;have BK378:=n14_;have HB:=n15_;clear n0_ n1_ n2_ n3_ n4_ n5_ n6_ n7_ n8_ n9_ n10_ n11_ n12_ n13_ n14_ n15_;(try clear hb);(try clear hb2);(try clear hk);(try clear hi)))
              go_meet
              case rel=>exact ⟨_,(true),(by first|rfl|(simp;done)|(simp [*];done)),H',⟨by have:=HJ13.out;have:=HJ66.out;first|omega|exact Nat.le_refl _⟩,⟨by (try simp only [hl341000_66]);(try simp only [hl341001_66]);(with_reducible repeat (first|apply Kd.R_alloc));exact Kd.R_mono HO_334000.out (fun _ hk=>⟨hk.1.1.1.1.1,⟨hk.1.1.1.1.2.1,⟨hk.1.1.1.1.2.2.1,⟨hk.1.1.1.1.2.2.2.1,⟨hk.1.1.1.1.2.2.2.2,⟨hk.1.2,hk.2⟩⟩⟩⟩⟩⟩)⟩,⟨by (try simp only [hl341000_66]);(try simp only [hl341001_66]);(with_reducible repeat (first|apply Kd.R_alloc));exact Kd.R_mono HO_334001.out (fun _ hk=>⟨hk.1.1.1.1.1,⟨hk.1.1.1.1.2.1,⟨hk.1.1.1.1.2.2.1,⟨hk.1.1.1.1.2.2.2.1,⟨hk.1.1.1.1.2.2.2.2,⟨hk.1.2,hk.2⟩⟩⟩⟩⟩⟩)⟩,⟨by (try simp only [hl341000_66]);(try simp only [hl341001_66]);(with_reducible repeat (first|apply Kd.R_alloc));exact Kd.R_mono HO_341000.out (fun _ hk=>⟨hk.1.1.1.1.1,⟨hk.1.1.1.1.2.1,⟨hk.1.1.1.1.2.2.1,⟨hk.1.1.1.1.2.2.2.1,⟨hk.1.1.1.1.2.2.2.2,⟨hk.1.2,hk.2⟩⟩⟩⟩⟩⟩)⟩,⟨by (try simp only [hl341000_66]);(try simp only [hl341001_66]);(with_reducible repeat (first|apply Kd.R_alloc));exact Kd.R_mono HO_341001.out (fun _ hk=>⟨hk.1.1.1.1.1,⟨hk.1.1.1.1.2.1,⟨hk.1.1.1.1.2.2.1,⟨hk.1.1.1.1.2.2.2.1,⟨hk.1.1.1.1.2.2.2.2,⟨hk.1.2,hk.2⟩⟩⟩⟩⟩⟩)⟩,⟨by (try simp only [hl341000_66]);(try simp only [hl341001_66]);(with_reducible repeat (first|apply Kd.R_alloc));exact Kd.R_mono HO_349000.out (fun _ hk=>⟨hk.1.1.1.1.1,⟨hk.1.1.1.1.2.1,⟨hk.1.1.1.1.2.2.1,⟨hk.1.1.1.1.2.2.2.1,⟨hk.1.1.1.1.2.2.2.2,⟨hk.1.2,hk.2⟩⟩⟩⟩⟩⟩)⟩,⟨by (try simp only [hl341000_66]);(try simp only [hl341001_66]);(with_reducible repeat (first|apply Kd.R_alloc));exact Kd.R_mono HO_349001.out (fun _ hk=>⟨hk.1.1.1.1.1,⟨hk.1.1.1.1.2.1,⟨hk.1.1.1.1.2.2.1,⟨hk.1.1.1.1.2.2.2.1,⟨hk.1.1.1.1.2.2.2.2,⟨hk.1.2,hk.2⟩⟩⟩⟩⟩⟩)⟩,⟨by (try simp only [hl341000_66]);(try simp only [hl341001_66]);(with_reducible repeat (first|apply Kd.R_alloc));exact Kd.R_mono HO373.out (fun _ hk=>⟨hk.1.1.1.1.1.1.1.2,⟨hk.1.1.1.1.1.1.2,⟨hk.1.1.1.1.1.2,⟨hk.1.1.1.1.2,⟨hk.1.1.1.2,⟨hk.1.1.2,hk.1.1.1.1.1.1.1.1⟩⟩⟩⟩⟩⟩)⟩,⟨by (try simp only [hl341000_66]);(try simp only [hl341001_66]);(with_reducible repeat (first|apply Kd.R_alloc));exact Kd.R_mono HO376.out (fun _ hk=>⟨hk.1.1.1.1.1.1.1.2,⟨hk.1.1.1.1.1.1.2,⟨hk.1.1.1.1.1.2,⟨hk.1.1.1.1.2,⟨hk.1.1.1.2,⟨hk.1.1.2,hk.1.1.1.1.1.1.1.1⟩⟩⟩⟩⟩⟩)⟩,⟨by (try simp only [hl341000_66]);(try simp only [hl341001_66]);(with_reducible repeat (refine blk_alloc ?_ _));exact BK318.out⟩,⟨by (try simp only [hl341000_66]);(try simp only [hl341001_66]);(with_reducible repeat (refine blk_alloc ?_ _));exact BK333.out⟩,⟨by (try simp only [hl341000_66]);(try simp only [hl341001_66]);(with_reducible repeat (refine blk_alloc ?_ _));exact BK340.out⟩,⟨by (try simp only [hl341000_66]);(try simp only [hl341001_66]);(with_reducible repeat (refine blk_alloc ?_ _));exact BK348.out⟩,⟨by (try simp only [hl341000_66]);(try simp only [hl341001_66]);(with_reducible repeat (refine blk_alloc ?_ _));exact BK378.out⟩,⟨by repeat (first|(with_reducible first|exact HB.out|apply below_alloc|refine below_set ?_ GE318.out|refine below_set ?_ GE333.out|refine below_set ?_ GE340.out|refine below_set ?_ GE348.out|refine below_set ?_ GE378.out)|exact HB.out)⟩⟩
            case rest =>
             clear HC111
             try clear c1
             try clear c2
             try clear p2
             try clear c3
             try clear c3b0
             try clear c3b1
             try clear c4
             try clear c5
             try clear c6
             try clear c6b0
             try clear c7
             try clear c8
             try clear c9
             try clear c10
             try clear c11
             try clear c12
             try clear c13
             try clear c14
             try clear c15
             try clear c18
             try clear c19
             try clear c24
             try clear c25
             try clear c26
             try clear c32
             try clear c33
             try clear c39
             try clear c40
             try clear c41
             try clear c45
             try clear c46
             try clear c47
             try clear c48
             try clear c50
             try clear c51
             try clear c54
             try clear c55
             try clear c56
             try clear c58
             try clear c59
             try clear c62
             try clear c65
             try clear c73
             try clear c74
             try clear c75
             try clear c78
             try clear c78b0
             try clear c80
             try clear c81
             try clear c82
             try clear c83
             try clear c85
             try clear c86
             try clear c89
             try clear c90
             try clear c91
             try clear c93
             try clear c94
             try clear c97
             try clear c100
             try clear c100b0
             try clear c101
             try clear c102
             try clear c103
             try clear c108
             try clear c108b0
             try clear c108b1
             try clear c112
             try clear c113
             try clear c114
             try clear c119
             try clear c120
             try clear c128
             try clear c129
             try clear c130
             try clear c131
             try clear c135
             try clear c136
             try clear c137
             try clear c138
             try clear c139
             try clear c141
             try clear c142
             try clear c143
             try clear c146
             try clear c147
             try clear c148
             try clear c149
             try clear c151
             try clear c152
             try clear c153
             try clear hcz104_0
             try clear hcz104_1
             try clear hcz106_0
             try clear hcz106_1
             try clear hcz115_0
             try clear hcz115_1
             try clear hcz117_0
             try clear hcz117_1
             try clear hcz121_0
             try clear hcz121_1
             try clear hcz132_0
             try clear hcz132_1
             try clear hcz140_0
             try clear hcz140_1
             try clear hcz144_0
             try clear hcz144_1
             try clear hcz150_0
             try clear hcz150_1
             try clear hcz154_0
             try clear hcz154_1
             try clear hcz16_0
             try clear hcz16_1
             try clear hcz18_0
             try clear hcz18_1
             try clear hcz26_0
             try clear hcz26_1
             try clear hcz28_0
             try clear hcz28_1
             try clear hcz34_0
             try clear hcz34_1
             try clear hcz42_0
             try clear hcz42_1
             try clear hcz49_0
             try clear hcz49_1
             try clear hcz52_0
             try clear hcz52_1
             try clear hcz57_0
             try clear hcz57_1
             try clear hcz60_0
             try clear hcz60_1
             try clear hcz76_0
             try clear hcz76_1
             try clear hcz84_0
             try clear hcz84_1
             try clear hcz87_0
             try clear hcz87_1
             try clear hcz8_0
             try clear hcz8_1
             try clear hcz92_0
             try clear hcz92_1
             try clear hcz95_0
             try clear hcz95_1
             try clear hfz104_0
             try clear hfz104_1
             try clear hfz106_0
             try clear hfz106_1
             try clear hfz115_0
             try clear hfz115_1
             try clear hfz117_0
             try clear hfz117_1
             try clear hfz121_0
             try clear hfz121_1
             try clear hfz132_0
             try clear hfz132_1
             try clear hfz140_0
             try clear hfz140_1
             try clear hfz144_0
             try clear hfz144_1
             try clear hfz150_0
             try clear hfz150_1
             try clear hfz154_0
             try clear hfz154_1
             try clear hfz16_0
             try clear hfz16_1
             try clear hfz18_0
             try clear hfz18_1
             try clear hfz26_0
             try clear hfz26_1
             try clear hfz28_0
             try clear hfz28_1
             try clear hfz34_0
             try clear hfz34_1
             try clear hfz42_0
             try clear hfz42_1
             try clear hfz49_0
             try clear hfz49_1
             try clear hfz52_0
             try clear hfz52_1
             try clear hfz57_0
             try clear hfz57_1
             try clear hfz60_0
             try clear hfz60_1
             try clear hfz76_0
             try clear hfz76_1
             try clear hfz84_0
             try clear hfz84_1
             try clear hfz87_0
             try clear hfz87_1
             try clear hfz8_0
             try clear hfz8_1
             try clear hfz92_0
             try clear hfz92_1
             try clear hfz95_0
             try clear hfz95_1
             try clear p2
             obtain ⟨kq,x95_110,rfl,HA,HJ110,HO_334000,HO_334001,HO_341000,HO_341001,HO_349000,HO_349001,HO_379000,HO_379001,BK318,BK333,BK340,BK348,BK378,HB⟩:=hcut
             have hl349000_110:=(Kd.R_reads' HO_349000.out).1
             rw [hl349000_110] at HO_349000
             (try simp only [hl349000_110])
             (try simp only [hl349000_110] at BK318)
             (try simp only [hl349000_110] at BK333)
             (try simp only [hl349000_110] at BK340)
             (try simp only [hl349000_110] at BK348)
             (try simp only [hl349000_110] at BK378)
             (try simp only [hl349000_110] at HO_334000)
             (try simp only [hl349000_110] at HO_334001)
             (try simp only [hl349000_110] at HO_341000)
             (try simp only [hl349000_110] at HO_341001)
             (try simp only [hl349000_110] at HO_349001)
             (try simp only [hl349000_110] at HO_379000)
             (try simp only [hl349000_110] at HO_379001)
             have hl349001_110:=(Kd.R_reads' HO_349001.out).1
             rw [hl349001_110] at HO_349001
             (try simp only [hl349001_110])
             (try simp only [hl349001_110] at BK318)
             (try simp only [hl349001_110] at BK333)
             (try simp only [hl349001_110] at BK340)
             (try simp only [hl349001_110] at BK348)
             (try simp only [hl349001_110] at BK378)
             (try simp only [hl349001_110] at HO_334000)
             (try simp only [hl349001_110] at HO_334001)
             (try simp only [hl349001_110] at HO_341000)
             (try simp only [hl349001_110] at HO_341001)
             (try simp only [hl349001_110] at HO_349000)
             (try simp only [hl349001_110] at HO_379000)
             (try simp only [hl349001_110] at HO_379001)
             cases kq with
             | zero=>exact absurd HA.out (by simp [laws_FnExactPutText.j2])
             | succ kj110 =>
              have H:=HA.out
              clear HA
              simp only [laws_FnExactPutText.j2] at H
              by_cases c156:x95_110 = true
              ·subst c156
               have H1:(some false) = some r:=by rw [if_pos rfl] at H;exact H
               clear H
               have H:=H1
               clear H1
               obtain rfl:=Option.some.inj H
               go_wp2
               go_ret
               exact ⟨by first|rfl|(simp [errW_none,errW_some] <;> rfl)|(simp [*,errW_none,errW_some] <;> rfl),by repeat (first|(with_reducible first|exact HB.out|apply below_alloc|refine below_set ?_ GE318.out|refine below_set ?_ GE333.out|refine below_set ?_ GE340.out|refine below_set ?_ GE348.out|refine below_set ?_ GE378.out)|exact HB.out)⟩
              ·replace c156:=Bool.eq_false_iff.mpr c156
               subst c156
               have H1:((laws_heldDisk.f kj110 t362 t363 1).bind fun t380=>(if t380 < 0 then (some false) else (if t380 = t361 then (some true) else (some false)))) = some r:=by rw [if_neg (show ¬ (false = true) by decide)] at H;exact H
               clear H
               have H:=H1
               clear H1
               replace H:=Option.bind_eq_some_iff.mp H
               obtain ⟨t380,A1570,H⟩:=H
               replace H:(if t380 < 0 then (some false) else (if t380 = t361 then (some true) else (some false))) = some r:=H
               have A157:=Aside0.mk A1570
               clear A1570
               by_cases c158:t380 < 0
               ·rw [if_pos c158] at H
                have c158b0:decide (t380 < 0) = true:=decide_eq_true c158
                clear c158
                obtain rfl:=Option.some.inj H
                have hnb159:=NB348_318.out
                have hnc159:=NB318_348.out
                have hnb160:=NB348_333.out
                have hnc160:=NB333_348.out
                have hnb161:=NB348_340.out
                have hnc161:=NB340_348.out
                have hnb162:=NB348_378.out
                have hnc162:=NB378_348.out
                have hcz163_0:wc.cell? ⟨gb348,0,none⟩ = some (.slice Ao38 t362.length co38):=(blk_cell BK348.out 0).trans rfl
                have hcz163_1:wc.cell? ⟨gb348,1,none⟩ = some (.slice Ao43 t363.length co43):=(blk_cell BK348.out 1).trans rfl
                have hfz163_0:=blk_frozen BK348.out 0
                have hfz163_1:=blk_frozen BK348.out 1
                go_wp2_with (first|((with_reducible refine gate_callee (f:=24) rfl ?_);refine goesL_ (some 98) rfl rfl Try.func24 (by kernel_rfl) rfl #[.agg #[.slice Ao38 t362.length co38,.slice Ao43 t363.length co43],.int .i64 1] rfl (by (try simp only [List.map_toArray,List.map_cons,List.map_nil]);first|done|rfl|(simp only [List.length_drop,List.length_take];rfl)) ?_;(with_reducible refine (laws_heldDisk.calls kj110 _ _ t362 _ _ t363 1 t380 _ ?side1 ?side2 ?side3 ?side4 A157.out).mono ?_);(case side1=>repeat (first|exact (Kd.R_reads' HO_349000.out).2.2|(with_reducible refine Kd.C_alloc ?_ _)));(case side2=>exact (Kd.R_reads' HO_349000.out).2.1);(case side3=>repeat (first|exact (Kd.R_reads' HO_349001.out).2.2|(with_reducible refine Kd.C_alloc ?_ _)));(case side4=>exact (Kd.R_reads' HO_349001.out).2.1);rintro e w164 ⟨rfl,hb⟩;refine ⟨_,rfl,?_⟩;have n0_:=Aside0.mk (Kd.R_below (by (with_reducible repeat (first|apply Kd.R_alloc));exact HO_334000.out) hb);have n1_:=Aside0.mk (Kd.R_below (by (with_reducible repeat (first|apply Kd.R_alloc));exact HO_334001.out) hb);have n2_:=Aside0.mk (Kd.R_below (by (with_reducible repeat (first|apply Kd.R_alloc));exact HO_341000.out) hb);have n3_:=Aside0.mk (Kd.R_below (by (with_reducible repeat (first|apply Kd.R_alloc));exact HO_341001.out) hb);have n4_:=Aside0.mk (Kd.R_below (by (with_reducible repeat (first|apply Kd.R_alloc));exact HO_349000.out) hb);have n5_:=Aside0.mk (Kd.R_below (by (with_reducible repeat (first|apply Kd.R_alloc));exact HO_349001.out) hb);have n6_:=Aside0.mk (Kd.R_below (by (with_reducible repeat (first|apply Kd.R_alloc));exact HO_379000.out) hb);have n7_:=Aside0.mk (Kd.R_below (by (with_reducible repeat (first|apply Kd.R_alloc));exact HO_379001.out) hb);have n8_:=Aside0.mk (blk_below (g:=gb318) (o:=.cells #[.slice A0_0 l0_0.length c0_0,.slice A0_1 l0_1.length c0_1] 30 (0,0)) (by (with_reducible repeat (refine blk_alloc ?_ _));exact BK318.out) hb);have n9_:=Aside0.mk (blk_below (g:=gb333) (o:=.cells #[.slice Ao24 t326.length co24,.slice Ao27 t329.length co27] 34 (0,0)) (by (with_reducible repeat (refine blk_alloc ?_ _));exact BK333.out) hb);have n10_:=Aside0.mk (blk_below (g:=gb340) (o:=.cells #[.slice Ao31 t358.length co31,.slice Ao35 t359.length co35] 34 (0,0)) (by (with_reducible repeat (refine blk_alloc ?_ _));exact BK340.out) hb);have n11_:=Aside0.mk (blk_below (g:=gb348) (o:=.cells #[.slice Ao38 t362.length co38,.slice Ao43 t363.length co43] 34 (0,0)) (by (with_reducible repeat (refine blk_alloc ?_ _));exact BK348.out) hb);have n12_:=Aside0.mk (blk_below (g:=gb378) (o:=.cells #[.slice Ao127 t371.length co127,.slice Ao133 t374.length co133] 34 (0,0)) (by (with_reducible repeat (refine blk_alloc ?_ _));exact BK378.out) hb);have n13_:=Aside0.mk (below_step (by repeat (first|(with_reducible first|exact HB.out|apply below_alloc|refine below_set ?_ GE318.out|refine below_set ?_ GE333.out|refine below_set ?_ GE340.out|refine below_set ?_ GE348.out|refine below_set ?_ GE378.out)|exact HB.out)) hb);clear HO_334000;clear HO_334001;clear HO_341000;clear HO_341001;clear HO_349000;clear HO_349001;clear HO_379000;clear HO_379001;clear BK318;clear BK333;clear BK340;clear BK348;clear BK378;clear HB;have HO_334000:=n0_;have HO_334001:=n1_;have HO_341000:=n2_;have HO_341001:=n3_;have HO_349000:=n4_;have HO_349001:=n5_;have HO_379000:=n6_;have HO_379001:=n7_;have BK318:=n8_;have BK333:=n9_;have BK340:=n10_;have BK348:=n11_;have BK378:=n12_;have HB:=n13_;clear n0_ n1_ n2_ n3_ n4_ n5_ n6_ n7_ n8_ n9_ n10_ n11_ n12_ n13_;(try clear hb);(try clear hb2);(try clear hk);(try clear hi)))
                go_ret
                exact ⟨by first|rfl|(simp [errW_none,errW_some] <;> rfl)|(simp [*,errW_none,errW_some] <;> rfl),by repeat (first|(with_reducible first|exact HB.out|apply below_alloc|refine below_set ?_ GE318.out|refine below_set ?_ GE333.out|refine below_set ?_ GE340.out|refine below_set ?_ GE348.out|refine below_set ?_ GE378.out)|exact HB.out)⟩
               ·rw [if_neg c158] at H
                have c158b0:decide (t380 < 0) = false:=decide_eq_false c158
                clear c158
                by_cases c165:t380 = t361
                ·rw [if_pos c165] at H
                 have c165b0:(t380 == t361) = true:=beq_iff_eq.mpr c165
                 have c165b1:(t380 != t361) = false:=bne_eq_false_iff_eq.mpr c165
                 clear c165
                 obtain rfl:=Option.some.inj H
                 have hnb166:=NB348_318.out
                 have hnc166:=NB318_348.out
                 have hnb167:=NB348_333.out
                 have hnc167:=NB333_348.out
                 have hnb168:=NB348_340.out
                 have hnc168:=NB340_348.out
                 have hnb169:=NB348_378.out
                 have hnc169:=NB378_348.out
                 have hcz170_0:wc.cell? ⟨gb348,0,none⟩ = some (.slice Ao38 t362.length co38):=(blk_cell BK348.out 0).trans rfl
                 have hcz170_1:wc.cell? ⟨gb348,1,none⟩ = some (.slice Ao43 t363.length co43):=(blk_cell BK348.out 1).trans rfl
                 have hfz170_0:=blk_frozen BK348.out 0
                 have hfz170_1:=blk_frozen BK348.out 1
                 go_wp2_with (first|((with_reducible refine gate_callee (f:=24) rfl ?_);refine goesL_ (some 98) rfl rfl Try.func24 (by kernel_rfl) rfl #[.agg #[.slice Ao38 t362.length co38,.slice Ao43 t363.length co43],.int .i64 1] rfl (by (try simp only [List.map_toArray,List.map_cons,List.map_nil]);first|done|rfl|(simp only [List.length_drop,List.length_take];rfl)) ?_;(with_reducible refine (laws_heldDisk.calls kj110 _ _ t362 _ _ t363 1 t380 _ ?side1 ?side2 ?side3 ?side4 A157.out).mono ?_);(case side1=>repeat (first|exact (Kd.R_reads' HO_349000.out).2.2|(with_reducible refine Kd.C_alloc ?_ _)));(case side2=>exact (Kd.R_reads' HO_349000.out).2.1);(case side3=>repeat (first|exact (Kd.R_reads' HO_349001.out).2.2|(with_reducible refine Kd.C_alloc ?_ _)));(case side4=>exact (Kd.R_reads' HO_349001.out).2.1);rintro e w171 ⟨rfl,hb⟩;refine ⟨_,rfl,?_⟩;have n0_:=Aside0.mk (Kd.R_below (by (with_reducible repeat (first|apply Kd.R_alloc));exact HO_334000.out) hb);have n1_:=Aside0.mk (Kd.R_below (by (with_reducible repeat (first|apply Kd.R_alloc));exact HO_334001.out) hb);have n2_:=Aside0.mk (Kd.R_below (by (with_reducible repeat (first|apply Kd.R_alloc));exact HO_341000.out) hb);have n3_:=Aside0.mk (Kd.R_below (by (with_reducible repeat (first|apply Kd.R_alloc));exact HO_341001.out) hb);have n4_:=Aside0.mk (Kd.R_below (by (with_reducible repeat (first|apply Kd.R_alloc));exact HO_349000.out) hb);have n5_:=Aside0.mk (Kd.R_below (by (with_reducible repeat (first|apply Kd.R_alloc));exact HO_349001.out) hb);have n6_:=Aside0.mk (Kd.R_below (by (with_reducible repeat (first|apply Kd.R_alloc));exact HO_379000.out) hb);have n7_:=Aside0.mk (Kd.R_below (by (with_reducible repeat (first|apply Kd.R_alloc));exact HO_379001.out) hb);have n8_:=Aside0.mk (blk_below (g:=gb318) (o:=.cells #[.slice A0_0 l0_0.length c0_0,.slice A0_1 l0_1.length c0_1] 30 (0,0)) (by (with_reducible repeat (refine blk_alloc ?_ _));exact BK318.out) hb);have n9_:=Aside0.mk (blk_below (g:=gb333) (o:=.cells #[.slice Ao24 t326.length co24,.slice Ao27 t329.length co27] 34 (0,0)) (by (with_reducible repeat (refine blk_alloc ?_ _));exact BK333.out) hb);have n10_:=Aside0.mk (blk_below (g:=gb340) (o:=.cells #[.slice Ao31 t358.length co31,.slice Ao35 t359.length co35] 34 (0,0)) (by (with_reducible repeat (refine blk_alloc ?_ _));exact BK340.out) hb);have n11_:=Aside0.mk (blk_below (g:=gb348) (o:=.cells #[.slice Ao38 t362.length co38,.slice Ao43 t363.length co43] 34 (0,0)) (by (with_reducible repeat (refine blk_alloc ?_ _));exact BK348.out) hb);have n12_:=Aside0.mk (blk_below (g:=gb378) (o:=.cells #[.slice Ao127 t371.length co127,.slice Ao133 t374.length co133] 34 (0,0)) (by (with_reducible repeat (refine blk_alloc ?_ _));exact BK378.out) hb);have n13_:=Aside0.mk (below_step (by repeat (first|(with_reducible first|exact HB.out|apply below_alloc|refine below_set ?_ GE318.out|refine below_set ?_ GE333.out|refine below_set ?_ GE340.out|refine below_set ?_ GE348.out|refine below_set ?_ GE378.out)|exact HB.out)) hb);clear HO_334000;clear HO_334001;clear HO_341000;clear HO_341001;clear HO_349000;clear HO_349001;clear HO_379000;clear HO_379001;clear BK318;clear BK333;clear BK340;clear BK348;clear BK378;clear HB;have HO_334000:=n0_;have HO_334001:=n1_;have HO_341000:=n2_;have HO_341001:=n3_;have HO_349000:=n4_;have HO_349001:=n5_;have HO_379000:=n6_;have HO_379001:=n7_;have BK318:=n8_;have BK333:=n9_;have BK340:=n10_;have BK348:=n11_;have BK378:=n12_;have HB:=n13_;clear n0_ n1_ n2_ n3_ n4_ n5_ n6_ n7_ n8_ n9_ n10_ n11_ n12_ n13_;(try clear hb);(try clear hb2);(try clear hk);(try clear hi)))
                 go_ret
                 exact ⟨by first|rfl|(simp [errW_none,errW_some] <;> rfl)|(simp [*,errW_none,errW_some] <;> rfl),by repeat (first|(with_reducible first|exact HB.out|apply below_alloc|refine below_set ?_ GE318.out|refine below_set ?_ GE333.out|refine below_set ?_ GE340.out|refine below_set ?_ GE348.out|refine below_set ?_ GE378.out)|exact HB.out)⟩
                ·rw [if_neg c165] at H
                 have c165b0:(t380 == t361) = false:=beq_eq_false_iff_ne.mpr c165
                 have c165b1:(t380 != t361) = true:=bne_iff_ne.mpr c165
                 obtain rfl:=Option.some.inj H
                 have hnb172:=NB348_318.out
                 have hnc172:=NB318_348.out
                 have hnb173:=NB348_333.out
                 have hnc173:=NB333_348.out
                 have hnb174:=NB348_340.out
                 have hnc174:=NB340_348.out
                 have hnb175:=NB348_378.out
                 have hnc175:=NB378_348.out
                 have hcz176_0:wc.cell? ⟨gb348,0,none⟩ = some (.slice Ao38 t362.length co38):=(blk_cell BK348.out 0).trans rfl
                 have hcz176_1:wc.cell? ⟨gb348,1,none⟩ = some (.slice Ao43 t363.length co43):=(blk_cell BK348.out 1).trans rfl
                 have hfz176_0:=blk_frozen BK348.out 0
                 have hfz176_1:=blk_frozen BK348.out 1
                 go_wp2_with (first|((with_reducible refine gate_callee (f:=24) rfl ?_);refine goesL_ (some 98) rfl rfl Try.func24 (by kernel_rfl) rfl #[.agg #[.slice Ao38 t362.length co38,.slice Ao43 t363.length co43],.int .i64 1] rfl (by (try simp only [List.map_toArray,List.map_cons,List.map_nil]);first|done|rfl|(simp only [List.length_drop,List.length_take];rfl)) ?_;(with_reducible refine (laws_heldDisk.calls kj110 _ _ t362 _ _ t363 1 t380 _ ?side1 ?side2 ?side3 ?side4 A157.out).mono ?_);(case side1=>repeat (first|exact (Kd.R_reads' HO_349000.out).2.2|(with_reducible refine Kd.C_alloc ?_ _)));(case side2=>exact (Kd.R_reads' HO_349000.out).2.1);(case side3=>repeat (first|exact (Kd.R_reads' HO_349001.out).2.2|(with_reducible refine Kd.C_alloc ?_ _)));(case side4=>exact (Kd.R_reads' HO_349001.out).2.1);rintro e w177 ⟨rfl,hb⟩;refine ⟨_,rfl,?_⟩;have n0_:=Aside0.mk (Kd.R_below (by (with_reducible repeat (first|apply Kd.R_alloc));exact HO_334000.out) hb);have n1_:=Aside0.mk (Kd.R_below (by (with_reducible repeat (first|apply Kd.R_alloc));exact HO_334001.out) hb);have n2_:=Aside0.mk (Kd.R_below (by (with_reducible repeat (first|apply Kd.R_alloc));exact HO_341000.out) hb);have n3_:=Aside0.mk (Kd.R_below (by (with_reducible repeat (first|apply Kd.R_alloc));exact HO_341001.out) hb);have n4_:=Aside0.mk (Kd.R_below (by (with_reducible repeat (first|apply Kd.R_alloc));exact HO_349000.out) hb);have n5_:=Aside0.mk (Kd.R_below (by (with_reducible repeat (first|apply Kd.R_alloc));exact HO_349001.out) hb);have n6_:=Aside0.mk (Kd.R_below (by (with_reducible repeat (first|apply Kd.R_alloc));exact HO_379000.out) hb);have n7_:=Aside0.mk (Kd.R_below (by (with_reducible repeat (first|apply Kd.R_alloc));exact HO_379001.out) hb);have n8_:=Aside0.mk (blk_below (g:=gb318) (o:=.cells #[.slice A0_0 l0_0.length c0_0,.slice A0_1 l0_1.length c0_1] 30 (0,0)) (by (with_reducible repeat (refine blk_alloc ?_ _));exact BK318.out) hb);have n9_:=Aside0.mk (blk_below (g:=gb333) (o:=.cells #[.slice Ao24 t326.length co24,.slice Ao27 t329.length co27] 34 (0,0)) (by (with_reducible repeat (refine blk_alloc ?_ _));exact BK333.out) hb);have n10_:=Aside0.mk (blk_below (g:=gb340) (o:=.cells #[.slice Ao31 t358.length co31,.slice Ao35 t359.length co35] 34 (0,0)) (by (with_reducible repeat (refine blk_alloc ?_ _));exact BK340.out) hb);have n11_:=Aside0.mk (blk_below (g:=gb348) (o:=.cells #[.slice Ao38 t362.length co38,.slice Ao43 t363.length co43] 34 (0,0)) (by (with_reducible repeat (refine blk_alloc ?_ _));exact BK348.out) hb);have n12_:=Aside0.mk (blk_below (g:=gb378) (o:=.cells #[.slice Ao127 t371.length co127,.slice Ao133 t374.length co133] 34 (0,0)) (by (with_reducible repeat (refine blk_alloc ?_ _));exact BK378.out) hb);have n13_:=Aside0.mk (below_step (by repeat (first|(with_reducible first|exact HB.out|apply below_alloc|refine below_set ?_ GE318.out|refine below_set ?_ GE333.out|refine below_set ?_ GE340.out|refine below_set ?_ GE348.out|refine below_set ?_ GE378.out)|exact HB.out)) hb);clear HO_334000;clear HO_334001;clear HO_341000;clear HO_341001;clear HO_349000;clear HO_349001;clear HO_379000;clear HO_379001;clear BK318;clear BK333;clear BK340;clear BK348;clear BK378;clear HB;have HO_334000:=n0_;have HO_334001:=n1_;have HO_341000:=n2_;have HO_341001:=n3_;have HO_349000:=n4_;have HO_349001:=n5_;have HO_379000:=n6_;have HO_379001:=n7_;have BK318:=n8_;have BK333:=n9_;have BK340:=n10_;have BK348:=n11_;have BK378:=n12_;have HB:=n13_;clear n0_ n1_ n2_ n3_ n4_ n5_ n6_ n7_ n8_ n9_ n10_ n11_ n12_ n13_;(try clear hb);(try clear hb2);(try clear hk);(try clear hi)))
                 go_ret
                 exact ⟨by first|rfl|(simp [errW_none,errW_some] <;> rfl)|(simp [*,errW_none,errW_some] <;> rfl),by repeat (first|(with_reducible first|exact HB.out|apply below_alloc|refine below_set ?_ GE318.out|refine below_set ?_ GE333.out|refine below_set ?_ GE340.out|refine below_set ?_ GE348.out|refine below_set ?_ GE378.out)|exact HB.out)⟩
           ·rw [if_neg c108] at H
            have c108b0:(t364 == t361) = false:=beq_eq_false_iff_ne.mpr c108
            have c108b1:(t364 != t361) = true:=bne_iff_ne.mpr c108
            obtain rfl:=Option.some.inj H
            have hnb178:=NB348_318.out
            have hnc178:=NB318_348.out
            have hnb179:=NB348_333.out
            have hnc179:=NB333_348.out
            have hnb180:=NB348_340.out
            have hnc180:=NB340_348.out
            have hcz181_0:wc.cell? ⟨gb348,0,none⟩ = some (.slice Ao38 t341.length co38):=(blk_cell BK348.out 0).trans rfl
            have hcz181_1:wc.cell? ⟨gb348,1,none⟩ = some (.slice Ao43 t344.length co43):=(blk_cell BK348.out 1).trans rfl
            have hfz181_0:=blk_frozen BK348.out 0
            have hfz181_1:=blk_frozen BK348.out 1
            go_wp2_with (first|((with_reducible refine gate_callee (f:=19) rfl ?_);refine goesL_ (some 71) rfl rfl Try.func19 (by kernel_rfl) rfl #[.agg #[.slice Ao38 t341.length co38,.slice Ao43 t344.length co43],.int .i64 1] rfl (by (try simp only [List.map_toArray,List.map_cons,List.map_nil]);first|done|rfl|(simp only [List.length_drop,List.length_take];rfl)) ?_;(with_reducible refine (laws_markDisk.calls kj66 (fun k_=>some k_ = (.slice Ao38 t341.length co38:Value).ownBlock) (.slice Ao38 t341.length co38) t341 (fun k_=>some k_ = (.slice Ao43 t344.length co43:Value).ownBlock) (.slice Ao43 t344.length co43) t344 1 t361 t362 t363 w _ ?side1 ?side2 ?side3 ?side4 ?side5 A98.out).mono ?_);(case side1=>repeat (first|(with_reducible first|exact HB.out|apply below_alloc|refine below_set ?_ GE318.out|refine below_set ?_ GE333.out|refine below_set ?_ GE340.out|refine below_set ?_ GE348.out)|exact HB.out));(case side2=>exact Kd.R_tight rfl HO_349000.out);(case side3=>exact fun k_ e_=>(HO_349000.out.1 k_ e_.symm).2.2.2.2);(case side4=>exact Kd.R_tight rfl HO_349001.out);(case side5=>exact fun k_ e_=>(HO_349001.out.1 k_ e_.symm).2.2.2.2);rintro e w182 ⟨rfl,hy0,hy1,hb,hkp⟩;refine ⟨_,rfl,?_⟩;have n0_:=Aside0.mk (Kd.R_mono (ok':=fun k_=>some k_ ≠ (.slice Ao27 t329.length co27:Value).ownBlock ∧ some k_ ≠ (.slice Ao31 t358.length co31:Value).ownBlock ∧ some k_ ≠ (.slice Ao35 t359.length co35:Value).ownBlock ∧ some k_ ≠ (.slice Ao38 t341.length co38:Value).ownBlock ∧ some k_ ≠ (.slice Ao43 t344.length co43:Value).ownBlock) (Kd.R_keptB (HO_334000.out) hkp (fun k_ hk_ hs_=>Or.elim hs_ (fun e_=>(hk_.2.2.2.1) e_) (fun e_=>(hk_.2.2.2.2) e_))) (fun k_ hk_=>⟨hk_.1.1,hk_.1.2.1,hk_.1.2.2.1,hk_.1.2.2.2.1,hk_.1.2.2.2.2⟩));have n1_:=Aside0.mk (Kd.R_mono (ok':=fun k_=>some k_ ≠ (.slice Ao24 t326.length co24:Value).ownBlock ∧ some k_ ≠ (.slice Ao31 t358.length co31:Value).ownBlock ∧ some k_ ≠ (.slice Ao35 t359.length co35:Value).ownBlock ∧ some k_ ≠ (.slice Ao38 t341.length co38:Value).ownBlock ∧ some k_ ≠ (.slice Ao43 t344.length co43:Value).ownBlock) (Kd.R_keptB (HO_334001.out) hkp (fun k_ hk_ hs_=>Or.elim hs_ (fun e_=>(hk_.2.2.2.1) e_) (fun e_=>(hk_.2.2.2.2) e_))) (fun k_ hk_=>⟨hk_.1.1,hk_.1.2.1,hk_.1.2.2.1,hk_.1.2.2.2.1,hk_.1.2.2.2.2⟩));have n2_:=Aside0.mk (Kd.R_mono (ok':=fun k_=>some k_ ≠ (.slice Ao24 t326.length co24:Value).ownBlock ∧ some k_ ≠ (.slice Ao27 t329.length co27:Value).ownBlock ∧ some k_ ≠ (.slice Ao35 t359.length co35:Value).ownBlock ∧ some k_ ≠ (.slice Ao38 t341.length co38:Value).ownBlock ∧ some k_ ≠ (.slice Ao43 t344.length co43:Value).ownBlock) (Kd.R_keptB (HO_341000.out) hkp (fun k_ hk_ hs_=>Or.elim hs_ (fun e_=>(hk_.2.2.2.1) e_) (fun e_=>(hk_.2.2.2.2) e_))) (fun k_ hk_=>⟨hk_.1.1,hk_.1.2.1,hk_.1.2.2.1,hk_.1.2.2.2.1,hk_.1.2.2.2.2⟩));have n3_:=Aside0.mk (Kd.R_mono (ok':=fun k_=>some k_ ≠ (.slice Ao24 t326.length co24:Value).ownBlock ∧ some k_ ≠ (.slice Ao27 t329.length co27:Value).ownBlock ∧ some k_ ≠ (.slice Ao31 t358.length co31:Value).ownBlock ∧ some k_ ≠ (.slice Ao38 t341.length co38:Value).ownBlock ∧ some k_ ≠ (.slice Ao43 t344.length co43:Value).ownBlock) (Kd.R_keptB (HO_341001.out) hkp (fun k_ hk_ hs_=>Or.elim hs_ (fun e_=>(hk_.2.2.2.1) e_) (fun e_=>(hk_.2.2.2.2) e_))) (fun k_ hk_=>⟨hk_.1.1,hk_.1.2.1,hk_.1.2.2.1,hk_.1.2.2.2.1,hk_.1.2.2.2.2⟩));have n4_:=Aside0.mk (Kd.R_reok rfl hy0 (fun k_ e_=>HO_349000.out.1 k_ e_));have n5_:=Aside0.mk (Kd.R_reok rfl hy1 (fun k_ e_=>HO_349001.out.1 k_ e_));have n6_:=Aside0.mk (blk_kept (by (with_reducible repeat (refine blk_alloc ?_ _));exact BK318.out) hkp (fun hs_=>Or.elim hs_ (fun e_=>(fun e_=>(Kd.R_ne HO_349000.out BK318.out (by decide)) e_) e_) (fun e_=>(fun e_=>(Kd.R_ne HO_349001.out BK318.out (by decide)) e_) e_)));have n7_:=Aside0.mk (blk_kept (by (with_reducible repeat (refine blk_alloc ?_ _));exact BK333.out) hkp (fun hs_=>Or.elim hs_ (fun e_=>(fun e_=>(Kd.R_ne HO_349000.out BK333.out (by decide)) e_) e_) (fun e_=>(fun e_=>(Kd.R_ne HO_349001.out BK333.out (by decide)) e_) e_)));have n8_:=Aside0.mk (blk_kept (by (with_reducible repeat (refine blk_alloc ?_ _));exact BK340.out) hkp (fun hs_=>Or.elim hs_ (fun e_=>(fun e_=>(Kd.R_ne HO_349000.out BK340.out (by decide)) e_) e_) (fun e_=>(fun e_=>(Kd.R_ne HO_349001.out BK340.out (by decide)) e_) e_)));have n9_:=Aside0.mk (blk_kept (by (with_reducible repeat (refine blk_alloc ?_ _));exact BK348.out) hkp (fun hs_=>Or.elim hs_ (fun e_=>(fun e_=>(Kd.R_ne HO_349000.out BK348.out (by decide)) e_) e_) (fun e_=>(fun e_=>(Kd.R_ne HO_349001.out BK348.out (by decide)) e_) e_)));have n10_:=Aside0.mk (hb);clear HO_334000;clear HO_334001;clear HO_341000;clear HO_341001;clear HO_349000;clear HO_349001;clear BK318;clear BK333;clear BK340;clear BK348;clear HB;have HO_334000:=n0_;have HO_334001:=n1_;have HO_341000:=n2_;have HO_341001:=n3_;have HO_349000:=n4_;have HO_349001:=n5_;have BK318:=n6_;have BK333:=n7_;have BK340:=n8_;have BK348:=n9_;have HB:=n10_;clear n0_ n1_ n2_ n3_ n4_ n5_ n6_ n7_ n8_ n9_ n10_;(try clear hb);(try clear hkp);(try clear hy0);(try clear hy1);have hcz183_0:w182.cell? ⟨gb348,0,none⟩ = some (.slice Ao38 t341.length co38):=(blk_cell BK348.out 0).trans rfl;have hcz183_1:w182.cell? ⟨gb348,1,none⟩ = some (.slice Ao43 t344.length co43):=(blk_cell BK348.out 1).trans rfl;have hfz183_0:=blk_frozen BK348.out 0;have hfz183_1:=blk_frozen BK348.out 1)|((with_reducible refine gate_callee (f:=24) rfl ?_);refine goesL_ (some 74) rfl rfl Try.func24 (by kernel_rfl) rfl #[.agg #[.slice Ao38 t362.length co38,.slice Ao43 t363.length co43],.int .i64 1] rfl (by (try simp only [List.map_toArray,List.map_cons,List.map_nil]);first|done|(rw [show t362.length = t341.length from (Kd.R_reads' HO_349000.out).1.symm,show t363.length = t344.length from (Kd.R_reads' HO_349001.out).1.symm] <;> rfl)|rfl|(simp only [List.length_drop,List.length_take];rfl)) ?_;(with_reducible refine (laws_heldDisk.calls kj66 _ _ t362 _ _ t363 1 t364 _ ?side1 ?side2 ?side3 ?side4 A99.out).mono ?_);(case side1=>repeat (first|exact (Kd.R_reads' HO_349000.out).2.2|(with_reducible refine Kd.C_alloc ?_ _)));(case side2=>rw [show t362.length = t341.length from (Kd.R_reads' HO_349000.out).1.symm];exact (Kd.R_reads' HO_349000.out).2.1);(case side3=>repeat (first|exact (Kd.R_reads' HO_349001.out).2.2|(with_reducible refine Kd.C_alloc ?_ _)));(case side4=>rw [show t363.length = t344.length from (Kd.R_reads' HO_349001.out).1.symm];exact (Kd.R_reads' HO_349001.out).2.1);rintro e w184 ⟨rfl,hb⟩;refine ⟨_,rfl,?_⟩;have n0_:=Aside0.mk (Kd.R_below (by (with_reducible repeat (first|apply Kd.R_alloc));exact HO_334000.out) hb);have n1_:=Aside0.mk (Kd.R_below (by (with_reducible repeat (first|apply Kd.R_alloc));exact HO_334001.out) hb);have n2_:=Aside0.mk (Kd.R_below (by (with_reducible repeat (first|apply Kd.R_alloc));exact HO_341000.out) hb);have n3_:=Aside0.mk (Kd.R_below (by (with_reducible repeat (first|apply Kd.R_alloc));exact HO_341001.out) hb);have n4_:=Aside0.mk (Kd.R_below (by (with_reducible repeat (first|apply Kd.R_alloc));exact HO_349000.out) hb);have n5_:=Aside0.mk (Kd.R_below (by (with_reducible repeat (first|apply Kd.R_alloc));exact HO_349001.out) hb);have n6_:=Aside0.mk (blk_below (g:=gb318) (o:=.cells #[.slice A0_0 l0_0.length c0_0,.slice A0_1 l0_1.length c0_1] 30 (0,0)) (by (with_reducible repeat (refine blk_alloc ?_ _));exact BK318.out) hb);have n7_:=Aside0.mk (blk_below (g:=gb333) (o:=.cells #[.slice Ao24 t326.length co24,.slice Ao27 t329.length co27] 34 (0,0)) (by (with_reducible repeat (refine blk_alloc ?_ _));exact BK333.out) hb);have n8_:=Aside0.mk (blk_below (g:=gb340) (o:=.cells #[.slice Ao31 t358.length co31,.slice Ao35 t359.length co35] 34 (0,0)) (by (with_reducible repeat (refine blk_alloc ?_ _));exact BK340.out) hb);have n9_:=Aside0.mk (blk_below (g:=gb348) (o:=.cells #[.slice Ao38 t341.length co38,.slice Ao43 t344.length co43] 34 (0,0)) (by (with_reducible repeat (refine blk_alloc ?_ _));exact BK348.out) hb);have n10_:=Aside0.mk (below_step (by repeat (first|(with_reducible first|exact HB.out|apply below_alloc|refine below_set ?_ GE318.out|refine below_set ?_ GE333.out|refine below_set ?_ GE340.out|refine below_set ?_ GE348.out)|exact HB.out)) hb);clear HO_334000;clear HO_334001;clear HO_341000;clear HO_341001;clear HO_349000;clear HO_349001;clear BK318;clear BK333;clear BK340;clear BK348;clear HB;have HO_334000:=n0_;have HO_334001:=n1_;have HO_341000:=n2_;have HO_341001:=n3_;have HO_349000:=n4_;have HO_349001:=n5_;have BK318:=n6_;have BK333:=n7_;have BK340:=n8_;have BK348:=n9_;have HB:=n10_;clear n0_ n1_ n2_ n3_ n4_ n5_ n6_ n7_ n8_ n9_ n10_;(try clear hb);(try clear hb2);(try clear hk);(try clear hi)))
            go_ret
            exact ⟨by first|rfl|(simp [errW_none,errW_some] <;> rfl)|(simp [*,errW_none,errW_some] <;> rfl),by repeat (first|(with_reducible first|exact HB.out|apply below_alloc|refine below_set ?_ GE318.out|refine below_set ?_ GE333.out|refine below_set ?_ GE340.out|refine below_set ?_ GE348.out)|exact HB.out)⟩
      ·replace c65:=Bool.eq_false_iff.mpr c65
       subst c65
       have H1:(some false) = some r:=by rw [if_neg (show ¬ (false = true) by decide)] at H;exact H
       clear H
       have H:=H1
       clear H1
       obtain rfl:=Option.some.inj H
       try go_wp2
       have n0_:=Aside0.mk (Kd.R_drew HO_334000.out)
       have n1_:=Aside0.mk (Kd.R_drew HO_334001.out)
       have n2_:=Aside0.mk (Kd.R_drew HO_341000.out)
       have n3_:=Aside0.mk (Kd.R_drew HO_341001.out)
       have n4_:=Aside0.mk (Kd.R_drew HO_349000.out)
       have n5_:=Aside0.mk (Kd.R_drew HO_349001.out)
       have n6_:=Aside0.mk (blk_drew BK318.out)
       have n7_:=Aside0.mk (blk_drew BK333.out)
       have n8_:=Aside0.mk (blk_drew BK340.out)
       have n9_:=Aside0.mk (blk_drew BK348.out)
       have n10_:=Aside0.mk (below_drew1 HB.out)
       clear HO_334000
       clear HO_334001
       clear HO_341000
       clear HO_341001
       clear HO_349000
       clear HO_349001
       clear BK318
       clear BK333
       clear BK340
       clear BK348
       clear HB
       have HO_334000:=n0_
       have HO_334001:=n1_
       have HO_341000:=n2_
       have HO_341001:=n3_
       have HO_349000:=n4_
       have HO_349001:=n5_
       have BK318:=n6_
       have BK333:=n7_
       have BK340:=n8_
       have BK348:=n9_
       have HB:=n10_
       clear n0_ n1_ n2_ n3_ n4_ n5_ n6_ n7_ n8_ n9_ n10_
       refine start_ (n:=5) (S:=fun w'=>w'.cell? ⟨gb340,0,none⟩ = some (.slice Ao31 t334.length co31) ∧ w'.cell? ⟨gb340,1,none⟩ = some (.slice Ao35 t337.length co35) ∧ w'.cell? ⟨gb318,0,none⟩ = some (.slice A0_0 l0_0.length c0_0) ∧ w'.cell? ⟨gb318,1,none⟩ = some (.slice A0_1 l0_1.length c0_1)) (ds:=[]) #[false,false,false,false,false] (by kernel_rfl) rfl rfl ⟨(blk_cell BK340.out 0).trans rfl,(blk_cell BK340.out 1).trans rfl,(blk_cell BK318.out 0).trans rfl,(blk_cell BK318.out 1).trans rfl⟩ (fun hHeld=>?_)
       generalize wc.drew = w185 at HO_334000 HO_334001 HO_341000 HO_341001 HO_349000 HO_349001 BK318 BK333 BK340 BK348 HB hHeld ⊢
       refine take_ (i:=0) (N:=some 48) (v:=?_) (a':=?_) #[true,false,false,false,false] rfl rfl (by kernel_rfl) (fun _ _ _ h=>h) (Or.inl ⟨by rfl,?_⟩) hHeld ?_ ?_
       rotate_left
       ·rintro w' ⟨s0,s1,s2,s3⟩
        go_simp
        with_reducible rfl
       rotate_left
       ·simp only [Act.put,List.setIfInBounds_toArray,List.set_cons_zero,List.set_cons_succ,i64_w,i32_w]
        rfl
       refine take_ (i:=1) (N:=some 49) (v:=?_) (a':=?_) #[true,true,false,false,false] rfl rfl (by kernel_rfl) (fun _ _ _ h=>h) (Or.inl ⟨by rfl,?_⟩) hHeld ?_ ?_
       rotate_left
       ·rintro w' ⟨s0,s1,s2,s3⟩
        go_simp
        with_reducible rfl
       rotate_left
       ·simp only [Act.put,List.setIfInBounds_toArray,List.set_cons_zero,List.set_cons_succ,i64_w,i32_w]
        rfl
       refine one_ (i:=2) (N:=some 50) #[true,true,true,false,false] rfl rfl (by kernel_rfl) (by decide) (fun K hK=>?_)
       refine goes_ Try.func15 (by kernel_rfl) rfl #[.agg #[.slice A0_0 l0_0.length c0_0,.slice A0_1 l0_1.length c0_1]] (by rfl) rfl rfl (by (try simp only [List.map_toArray,List.map_cons,List.map_nil]);first|done|rfl|(simp only [List.length_drop,List.length_take];rfl)) ?_
       with_reducible refine (laws_toDisk.calls kj13 _ _ l0_0 _ _ l0_1 t350 t353 _ ?side1 ?side2 ?side3 ?side4 A63.out).mono ?_
       (case side1=>repeat (first|exact (Kd.C_below HR0_0.out HB.out)|(with_reducible refine Kd.C_alloc ?_ _)))
       (case side2=>exact HC0_0.out)
       (case side3=>repeat (first|exact (Kd.C_below HR0_1.out HB.out)|(with_reducible refine Kd.C_alloc ?_ _)))
       (case side4=>exact HC0_1.out)
       rintro e w186 ⟨v351,v354,rfl,ho0,ho1,hb⟩
       refine ⟨_,rfl,?_⟩
       have n0_:=Aside0.mk (Kd.R_mono (Kd.R_told (Kd.R_told (Kd.R_old (by (with_reducible repeat (first|apply Kd.R_alloc));exact HO_334000.out) hb) (Kd.R_base ho0)) (Kd.R_base ho1)) (fun _ h_=>h_.1))
       have n1_:=Aside0.mk (Kd.R_mono (Kd.R_told (Kd.R_told (Kd.R_old (by (with_reducible repeat (first|apply Kd.R_alloc));exact HO_334001.out) hb) (Kd.R_base ho0)) (Kd.R_base ho1)) (fun _ h_=>h_.1))
       have n2_:=Aside0.mk (Kd.R_mono (Kd.R_told (Kd.R_told (Kd.R_old (by (with_reducible repeat (first|apply Kd.R_alloc));exact HO_341000.out) hb) (Kd.R_base ho0)) (Kd.R_base ho1)) (fun _ h_=>h_.1))
       have n3_:=Aside0.mk (Kd.R_mono (Kd.R_told (Kd.R_told (Kd.R_old (by (with_reducible repeat (first|apply Kd.R_alloc));exact HO_341001.out) hb) (Kd.R_base ho0)) (Kd.R_base ho1)) (fun _ h_=>h_.1))
       have n4_:=Aside0.mk (Kd.R_mono (Kd.R_told (Kd.R_told (Kd.R_old (by (with_reducible repeat (first|apply Kd.R_alloc));exact HO_349000.out) hb) (Kd.R_base ho0)) (Kd.R_base ho1)) (fun _ h_=>h_.1))
       have n5_:=Aside0.mk (Kd.R_mono (Kd.R_told (Kd.R_told (Kd.R_old (by (with_reducible repeat (first|apply Kd.R_alloc));exact HO_349001.out) hb) (Kd.R_base ho0)) (Kd.R_base ho1)) (fun _ h_=>h_.1))
       have n6_:=Aside0.mk (Kd.R_lower (Kd.R_new' (Kd.R_new' (Kd.R_new' (Kd.R_new' (Kd.R_new' (Kd.R_new' ho0 (Kd.R_lt (by (with_reducible repeat (first|apply Kd.R_alloc));exact HO_334000.out))) (Kd.R_lt (by (with_reducible repeat (first|apply Kd.R_alloc));exact HO_334001.out))) (Kd.R_lt (by (with_reducible repeat (first|apply Kd.R_alloc));exact HO_341000.out))) (Kd.R_lt (by (with_reducible repeat (first|apply Kd.R_alloc));exact HO_341001.out))) (Kd.R_lt (by (with_reducible repeat (first|apply Kd.R_alloc));exact HO_349000.out))) (Kd.R_lt (by (with_reducible repeat (first|apply Kd.R_alloc));exact HO_349001.out))) (below_size (by repeat (first|(with_reducible first|exact HB.out|apply below_alloc|refine below_set ?_ GE318.out|refine below_set ?_ GE333.out|refine below_set ?_ GE340.out|refine below_set ?_ GE348.out)|exact HB.out))))
       have n7_:=Aside0.mk (Kd.R_lower (Kd.R_new' (Kd.R_new' (Kd.R_new' (Kd.R_new' (Kd.R_new' (Kd.R_new' ho1 (Kd.R_lt (by (with_reducible repeat (first|apply Kd.R_alloc));exact HO_334000.out))) (Kd.R_lt (by (with_reducible repeat (first|apply Kd.R_alloc));exact HO_334001.out))) (Kd.R_lt (by (with_reducible repeat (first|apply Kd.R_alloc));exact HO_341000.out))) (Kd.R_lt (by (with_reducible repeat (first|apply Kd.R_alloc));exact HO_341001.out))) (Kd.R_lt (by (with_reducible repeat (first|apply Kd.R_alloc));exact HO_349000.out))) (Kd.R_lt (by (with_reducible repeat (first|apply Kd.R_alloc));exact HO_349001.out))) (below_size (by repeat (first|(with_reducible first|exact HB.out|apply below_alloc|refine below_set ?_ GE318.out|refine below_set ?_ GE333.out|refine below_set ?_ GE340.out|refine below_set ?_ GE348.out)|exact HB.out))))
       have n8_:=Aside0.mk (blk_below (g:=gb318) (o:=.cells #[.slice A0_0 l0_0.length c0_0,.slice A0_1 l0_1.length c0_1] 30 (0,0)) (by (with_reducible repeat (refine blk_alloc ?_ _));exact BK318.out) hb)
       have n9_:=Aside0.mk (blk_below (g:=gb333) (o:=.cells #[.slice Ao24 t326.length co24,.slice Ao27 t329.length co27] 34 (0,0)) (by (with_reducible repeat (refine blk_alloc ?_ _));exact BK333.out) hb)
       have n10_:=Aside0.mk (blk_below (g:=gb340) (o:=.cells #[.slice Ao31 t334.length co31,.slice Ao35 t337.length co35] 34 (0,0)) (by (with_reducible repeat (refine blk_alloc ?_ _));exact BK340.out) hb)
       have n11_:=Aside0.mk (blk_below (g:=gb348) (o:=.cells #[.slice Ao38 t341.length co38,.slice Ao43 t344.length co43] 34 (0,0)) (by (with_reducible repeat (refine blk_alloc ?_ _));exact BK348.out) hb)
       have n12_:=Aside0.mk (below_step (by repeat (first|(with_reducible first|exact HB.out|apply below_alloc|refine below_set ?_ GE318.out|refine below_set ?_ GE333.out|refine below_set ?_ GE340.out|refine below_set ?_ GE348.out)|exact HB.out)) hb)
       clear HO_334000
       clear HO_334001
       clear HO_341000
       clear HO_341001
       clear HO_349000
       clear HO_349001
       clear BK318
       clear BK333
       clear BK340
       clear BK348
       clear HB
       have HO_334000:=n0_
       have HO_334001:=n1_
       have HO_341000:=n2_
       have HO_341001:=n3_
       have HO_349000:=n4_
       have HO_349001:=n5_
       have HO352:=n6_
       have HO355:=n7_
       have BK318:=n8_
       have BK333:=n9_
       have BK340:=n10_
       have BK348:=n11_
       have HB:=n12_
       clear n0_ n1_ n2_ n3_ n4_ n5_ n6_ n7_ n8_ n9_ n10_ n11_ n12_
       (try clear hb)
       (try clear hb2)
       (try clear hk)
       (try clear hi)
       (try clear ho0)
       (try clear ho1)
       obtain ⟨Ao187,co187,eo187⟩:=Kd.R_slice HO352.out
       (first|subst eo187|(injection eo187 with f1_ f2_ f3_;have f4_:=f1_.symm;have f5_:=f3_.symm;clear f1_ f2_ f3_;subst f4_;subst f5_))
       obtain ⟨Ao188,co188,eo188⟩:=Kd.R_slice HO355.out
       (first|subst eo188|(injection eo188 with f1_ f2_ f3_;have f4_:=f1_.symm;have f5_:=f3_.symm;clear f1_ f2_ f3_;subst f4_;subst f5_))
       refine hK.out _ _ ⟨(blk_cell BK340.out 0).trans rfl,(blk_cell BK340.out 1).trans rfl,(blk_cell BK318.out 0).trans rfl,(blk_cell BK318.out 1).trans rfl⟩ (fun hHeld=>?_)
       clear hK K
       refine norm_ (a':=?_) ?_ ?_
       rotate_left
       ·show Act.put _ (some 50) _ = _
        simp only [Act.put,List.setIfInBounds_toArray,List.set_cons_zero,List.set_cons_succ,i64_w,i32_w]
        rfl
       refine one_ (i:=3) (N:=some 51) #[true,true,true,true,false] rfl rfl (by kernel_rfl) (by decide) (fun K hK=>?_)
       refine goes_ Try.func18 (by kernel_rfl) rfl #[.agg #[.slice Ao31 t334.length co31,.slice Ao35 t337.length co35],.agg #[.slice Ao187 t350.length co187,.slice Ao188 t353.length co188]] (by rfl) rfl rfl (by (try simp only [List.map_toArray,List.map_cons,List.map_nil]);first|done|rfl|(simp only [List.length_drop,List.length_take];rfl)) ?_
       with_reducible refine (laws_eqDisk.calls kj13 _ _ t334 _ _ t337 _ _ t350 _ _ t353 false _ ?side1 ?side2 ?side3 ?side4 ?side5 ?side6 ?side7 ?side8 A64.out).mono ?_
       (case side1=>repeat (first|exact (Kd.R_reads' HO_341000.out).2.2|(with_reducible refine Kd.C_alloc ?_ _)))
       (case side2=>exact (Kd.R_reads' HO_341000.out).2.1)
       (case side3=>repeat (first|exact (Kd.R_reads' HO_341001.out).2.2|(with_reducible refine Kd.C_alloc ?_ _)))
       (case side4=>exact (Kd.R_reads' HO_341001.out).2.1)
       (case side5=>repeat (first|exact (Kd.R_reads' HO352.out).2.2|(with_reducible refine Kd.C_alloc ?_ _)))
       (case side6=>exact (Kd.R_reads' HO352.out).2.1)
       (case side7=>repeat (first|exact (Kd.R_reads' HO355.out).2.2|(with_reducible refine Kd.C_alloc ?_ _)))
       (case side8=>exact (Kd.R_reads' HO355.out).2.1)
       rintro e w189 ⟨rfl,hb⟩
       refine ⟨_,rfl,?_⟩
       have n0_:=Aside0.mk (Kd.R_below (by (with_reducible repeat (first|apply Kd.R_alloc));exact HO_334000.out) hb)
       have n1_:=Aside0.mk (Kd.R_below (by (with_reducible repeat (first|apply Kd.R_alloc));exact HO_334001.out) hb)
       have n2_:=Aside0.mk (Kd.R_below (by (with_reducible repeat (first|apply Kd.R_alloc));exact HO_341000.out) hb)
       have n3_:=Aside0.mk (Kd.R_below (by (with_reducible repeat (first|apply Kd.R_alloc));exact HO_341001.out) hb)
       have n4_:=Aside0.mk (Kd.R_below (by (with_reducible repeat (first|apply Kd.R_alloc));exact HO_349000.out) hb)
       have n5_:=Aside0.mk (Kd.R_below (by (with_reducible repeat (first|apply Kd.R_alloc));exact HO_349001.out) hb)
       have n6_:=Aside0.mk (Kd.R_below (by (with_reducible repeat (first|apply Kd.R_alloc));exact HO352.out) hb)
       have n7_:=Aside0.mk (Kd.R_below (by (with_reducible repeat (first|apply Kd.R_alloc));exact HO355.out) hb)
       have n8_:=Aside0.mk (blk_below (g:=gb318) (o:=.cells #[.slice A0_0 l0_0.length c0_0,.slice A0_1 l0_1.length c0_1] 30 (0,0)) (by (with_reducible repeat (refine blk_alloc ?_ _));exact BK318.out) hb)
       have n9_:=Aside0.mk (blk_below (g:=gb333) (o:=.cells #[.slice Ao24 t326.length co24,.slice Ao27 t329.length co27] 34 (0,0)) (by (with_reducible repeat (refine blk_alloc ?_ _));exact BK333.out) hb)
       have n10_:=Aside0.mk (blk_below (g:=gb340) (o:=.cells #[.slice Ao31 t334.length co31,.slice Ao35 t337.length co35] 34 (0,0)) (by (with_reducible repeat (refine blk_alloc ?_ _));exact BK340.out) hb)
       have n11_:=Aside0.mk (blk_below (g:=gb348) (o:=.cells #[.slice Ao38 t341.length co38,.slice Ao43 t344.length co43] 34 (0,0)) (by (with_reducible repeat (refine blk_alloc ?_ _));exact BK348.out) hb)
       have n12_:=Aside0.mk (below_step (by repeat (first|(with_reducible first|exact HB.out|apply below_alloc|refine below_set ?_ GE318.out|refine below_set ?_ GE333.out|refine below_set ?_ GE340.out|refine below_set ?_ GE348.out)|exact HB.out)) hb)
       clear HO_334000
       clear HO_334001
       clear HO_341000
       clear HO_341001
       clear HO_349000
       clear HO_349001
       clear HO352
       clear HO355
       clear BK318
       clear BK333
       clear BK340
       clear BK348
       clear HB
       have HO_334000:=n0_
       have HO_334001:=n1_
       have HO_341000:=n2_
       have HO_341001:=n3_
       have HO_349000:=n4_
       have HO_349001:=n5_
       have HO352:=n6_
       have HO355:=n7_
       have BK318:=n8_
       have BK333:=n9_
       have BK340:=n10_
       have BK348:=n11_
       have HB:=n12_
       clear n0_ n1_ n2_ n3_ n4_ n5_ n6_ n7_ n8_ n9_ n10_ n11_ n12_
       (try clear hb)
       (try clear hb2)
       (try clear hk)
       (try clear hi)
       refine hK.out _ _ ⟨(blk_cell BK340.out 0).trans rfl,(blk_cell BK340.out 1).trans rfl,(blk_cell BK318.out 0).trans rfl,(blk_cell BK318.out 1).trans rfl⟩ (fun hHeld=>?_)
       clear hK K
       refine norm_ (a':=?_) ?_ ?_
       rotate_left
       ·show Act.put _ (some 51) _ = _
        simp only [Act.put,List.setIfInBounds_toArray,List.set_cons_zero,List.set_cons_succ,i64_w,i32_w]
        rfl
       refine pure_ (i:=4) (N:=some 52) (v:=?_) (a':=?_) #[true,true,true,true,true] rfl rfl (by kernel_rfl) (fun _ _ _ h=>h) (Or.inl ⟨by rfl,?_⟩) ?_ ?_
       rotate_left
       ·intro w'
        go_simp
        with_reducible rfl
       rotate_left
       ·simp only [Act.put,List.setIfInBounds_toArray,List.set_cons_zero,List.set_cons_succ,i64_w,i32_w]
        rfl
       refine done_ (by kernel_rfl) ?_
       try go_wp2
       go_ret
       exact ⟨by first|rfl|(simp [errW_none,errW_some] <;> rfl)|(simp [*,errW_none,errW_some] <;> rfl),by repeat (first|(with_reducible first|exact HB.out|apply below_alloc|refine below_set ?_ GE318.out|refine below_set ?_ GE333.out|refine below_set ?_ GE340.out|refine below_set ?_ GE348.out)|exact HB.out)⟩

/-- THE ONE PURE STATEMENT of laws_FnExactPutText: yours. -/
def laws_FnExactPutText.Pure:Prop:=∀ (l0_0:List ByteArray) (l0_1:List ByteArray) (a1:ByteArray),(l0_0.length ≤ maxLen ∧ ∀ a ∈ l0_0,a.size ≤ maxLen) → (l0_1.length ≤ maxLen ∧ ∀ a ∈ l0_1,a.size ≤ maxLen) → a1.size ≤ maxLen → ∃ k,laws_FnExactPutText.f k l0_0 l0_1 a1 = some true

end Go.Proofs.Ytamiedpgahpihaa.QFnExactPutText
