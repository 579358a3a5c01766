-- Written by this session's own program (wip/x/xprint.py, over the kit's printer); Lean checks it.
import Derived.Test.YtlgnanbnicmdaabQFnExactInputsOfx0
import Derived.Test.YtlgnanbnicmdaabQFnExactInputsOfx5
namespace Go.Proofs.Ytlgnanbnicmdaab.QFnExactInputsOf
open Go.RowKit Go.Proofs.YtlgnanbnicmdaabW.PrintWords Go.Proofs.YtlgnanbnicmdaabW.PrintLast Go.Proofs.YtlgnanbnicmdaabW.PrintMore
attribute [local go_sem] max2_int min2_int max_two min_two max_three min_three max_four min_four   -- for this text's walks alone
set_option linter.unusedVariables false
set_option linter.unusedSimpArgs false

/-! ### impl_Sign_areSteps: function 90 -/
def impl_Sign_areSteps.f (k:Nat) (l0_0:List Int) (l1:List (S81)):Option (Bool):=if (l1.length:Int) ≤ 200 then ((impl_Sign_areSteps_1_any.f k l1 l0_0).bind fun t285=>(some (!t285))) else (some false)
theorem impl_Sign_areSteps.mono:∀ a0 a1 k,LeO (impl_Sign_areSteps.f k a0 a1) (impl_Sign_areSteps.f (k + 1) a0 a1):=by
 intro a0 a1 k
 unfold impl_Sign_areSteps.f
 repeat' first
   | (with_reducible exact impl_Sign_areSteps_1_any.mono _ _ _)
   | (with_reducible exact LeO.refl _)
   | (with_reducible exact LeO.none _)
   | (with_reducible refine LeO.ite ?_ ?_)
   | (with_reducible refine LeO.bind ?_ (fun _=>?_))
   | exact impl_Sign_areSteps_1_any.mono _ _ _
   | exact LeO.none _
   | refine LeO.ite ?_ ?_
   | refine LeO.bind ?_ (fun _=>?_)
set_option maxHeartbeats 8000000 in
set_option maxRecDepth 100000 in
theorem impl_Sign_areSteps.calls (k:Nat) (A0_0:Option Addr) (c0_0:Nat) (l0_0:List Int) (A1:Option Addr) (c1:Nat) (l1:List (S81)) (r:Bool) (w:World) (hr0_0:Kd.C (Kd.int .i64) w A0_0 l0_0.length l0_0) (hc0_0:l0_0.length ≤ c0_0) (hr1:Kd.C k81 w A1 l1.length l1) (hc1:l1.length ≤ c1) (h:impl_Sign_areSteps.f k l0_0 l1 = some r) :
  Calls Try.prog 90 #[.agg #[.slice A0_0 l0_0.length c0_0],.slice A1 l1.length c1] w fun e w'=>e = .returned (.bool r) ∧ Below w.heap.size w w':=by
 have hu30:=Try.underlying30
 have HR0_0:=Aside0.mk hr0_0
 have HC0_0:=Aside0.mk hc0_0
 clear hr0_0 hc0_0
 have HR1:=Aside0.mk hr1
 have HC1:=Aside0.mk hc1
 clear hr1 hc1
 have HB:=Aside0.mk (Below.refl w.heap.size w)
 have H:(if (l1.length:Int) ≤ 200 then ((impl_Sign_areSteps_1_any.f k l1 l0_0).bind fun t285=>(some (!t285))) else (some false)) = some r:=h
 clear h
 by_cases c3:(l1.length:Int) ≤ 200
 ·rw [if_pos c3] at H
  have c3b0:decide ((l1.length:Int) ≤ 200) = true:=decide_eq_true c3
  have c3b1:decide (l1.length ≤ 200) = true:=decide_eq_true (by omega)
  clear c3
  replace H:=Option.bind_eq_some_iff.mp H
  obtain ⟨t285,A40,H⟩:=H
  replace H:(some (!t285)) = some r:=H
  have A4:=Aside0.mk A40
  clear A40
  obtain rfl:=Option.some.inj H
  go_enter Try.func90,Try.ntmps90
  go_wp2_with (first|((with_reducible refine gate_dst (N:=2) rfl ?_);refine box_event ?hg (N:=2) ?hd (cs:=#[.slice A0_0 l0_0.length c0_0]) (t:=30) ?hr ?_;(case hd=>rfl);(case hg=>rfl);(case hr=>first|(go_simp;done)|(go_simp;rfl));intro gb284 hg w5 hbox hb;have n0_:=Aside0.mk (below_step (by repeat (first|(with_reducible first|exact HB.out|apply below_alloc|apply pw_below_drewN|apply below_drew1)|exact HB.out)) hb);have n1_:=Aside0.mk (hbox);have n2_:=Aside0.mk ((by rw [hg];exact (below_size (by repeat (first|(with_reducible first|exact HB.out|apply below_alloc|apply pw_below_drewN|apply below_drew1)|exact HB.out))):w.heap.size ≤ gb284));have n3_:=Aside0.mk ((by rw [hg];exact (below_size (by repeat (first|(with_reducible first|exact HB.out|apply below_alloc|apply pw_below_drewN|apply below_drew1)|exact HB.out))):w.heap.size ≤ gb284));clear HB;have HB:=n0_;have BK284:=n1_;have GW284:=n2_;have GE284:=n3_;clear n0_ n1_ n2_ n3_;clear hb hbox hg)|(go_at_call 121;(with_reducible refine (impl_Sign_areSteps_1_any.calls k _ _ l1 A0_0 c0_0 l0_0 gb284 t285 _ ?side1 ?side2 ?side3 ?side4 ?side5 A4.out).mono ?_);(case side1=>repeat (first|exact (Kd.C_below HR1.out HB.out)|(with_reducible refine Kd.C_alloc ?_ _)|(with_reducible refine Kd.C_drewN ?_ _)|(with_reducible refine Kd.C_drew ?_)));(case side2=>exact HC1.out);(case side3=>repeat (first|exact (Kd.C_below HR0_0.out HB.out)|(with_reducible refine Kd.C_alloc ?_ _)|(with_reducible refine Kd.C_drewN ?_ _)|(with_reducible refine Kd.C_drew ?_)));(case side4=>exact HC0_0.out);(case side5=>(with_reducible repeat (first|refine blk_drewN ?_ _|refine blk_drew ?_|refine blk_alloc ?_ _));exact BK284.out);rintro e w6 ⟨rfl,hb⟩;have n0_:=Aside0.mk (blk_below (g:=gb284) (o:=.cells #[.slice A0_0 l0_0.length c0_0] 30 (0,0)) (by (with_reducible repeat (first|refine blk_drewN ?_ _|refine blk_drew ?_|refine blk_alloc ?_ _));exact BK284.out) hb);have n1_:=Aside0.mk (below_step (by repeat (first|(with_reducible first|exact HB.out|apply below_alloc|apply pw_below_drewN|apply below_drew1|refine below_set ?_ GE284.out)|exact HB.out)) hb);clear BK284;clear HB;have BK284:=n0_;have HB:=n1_;clear n0_ n1_;(try clear hb);(try clear hb2);(try clear hk);(try clear hi)))
  go_ret
  exact ⟨by first|rfl|(simp [errW_none,errW_some] <;> rfl)|(simp [*,errW_none,errW_some] <;> rfl),by repeat (first|(with_reducible first|exact HB.out|apply below_alloc|apply pw_below_drewN|apply below_drew1|refine below_set ?_ GE284.out)|exact HB.out)⟩
 ·rw [if_neg c3] at H
  have c3b0:decide ((l1.length:Int) ≤ 200) = false:=decide_eq_false c3
  have c3b1:decide (l1.length ≤ 200) = false:=decide_eq_false (by omega)
  clear c3
  obtain rfl:=Option.some.inj H
  go_enter Try.func90,Try.ntmps90
  go_wp2_with (first|((with_reducible refine gate_dst (N:=2) rfl ?_);refine box_event ?hg (N:=2) ?hd (cs:=#[.slice A0_0 l0_0.length c0_0]) (t:=30) ?hr ?_;(case hd=>rfl);(case hg=>rfl);(case hr=>first|(go_simp;done)|(go_simp;rfl));intro gb284 hg w7 hbox hb;have n0_:=Aside0.mk (below_step (by repeat (first|(with_reducible first|exact HB.out|apply below_alloc|apply pw_below_drewN|apply below_drew1)|exact HB.out)) hb);have n1_:=Aside0.mk (hbox);have n2_:=Aside0.mk ((by rw [hg];exact (below_size (by repeat (first|(with_reducible first|exact HB.out|apply below_alloc|apply pw_below_drewN|apply below_drew1)|exact HB.out))):w.heap.size ≤ gb284));have n3_:=Aside0.mk ((by rw [hg];exact (below_size (by repeat (first|(with_reducible first|exact HB.out|apply below_alloc|apply pw_below_drewN|apply below_drew1)|exact HB.out))):w.heap.size ≤ gb284));clear HB;have HB:=n0_;have BK284:=n1_;have GW284:=n2_;have GE284:=n3_;clear n0_ n1_ n2_ n3_;clear hb hbox hg))
  go_ret
  exact ⟨by first|rfl|(simp [errW_none,errW_some] <;> rfl)|(simp [*,errW_none,errW_some] <;> rfl),by repeat (first|(with_reducible first|exact HB.out|apply below_alloc|apply pw_below_drewN|apply below_drew1|refine below_set ?_ GE284.out)|exact HB.out)⟩

/-! ### impl_areOf_1: function 123 -/
def impl_areOf_1.f (a0:Int) (l1:List (S81)):Option (Bool):=if a0 < 0 then (some true) else (some (decide (a0 ≥ (l1.length:Int))))
set_option maxHeartbeats 8000000 in
set_option maxRecDepth 100000 in
theorem impl_areOf_1.calls (a0:Int) (g1_:Nat) (A1:Option Addr) (c1:Nat) (l1:List (S81)) (r:Bool) (w:World) (hr1:Kd.C k81 w A1 l1.length l1) (hc1:l1.length ≤ c1) (hg1:w.heap[g1_]? = some (.cells #[.slice A1 l1.length c1] 53 (0,0))) (h:impl_areOf_1.f a0 l1 = some r) :
  Calls Try.prog 123 #[.int .i64 a0,.pointer (some ⟨g1_,0,none⟩)] w fun e w'=>e = .returned (.bool r) ∧ Below w.heap.size w w':=by
 have HR1:=Aside0.mk hr1
 have HC1:=Aside0.mk hc1
 clear hr1 hc1
 have BK1:=Aside0.mk hg1
 clear hg1
 have HB:=Aside0.mk (Below.refl w.heap.size w)
 have H:(if a0 < 0 then (some true) else (some (decide (a0 ≥ (l1.length:Int))))) = some r:=h
 clear h
 by_cases c3:a0 < 0
 ·rw [if_pos c3] at H
  have c3b0:decide (a0 < 0) = true:=decide_eq_true c3
  clear c3
  obtain rfl:=Option.some.inj H
  go_enter Try.func123,Try.ntmps123
  go_wp2
  go_ret
  exact ⟨by first|rfl|(simp [errW_none,errW_some] <;> rfl)|(simp [*,errW_none,errW_some] <;> rfl),by repeat (first|(with_reducible first|exact HB.out|apply below_alloc|apply pw_below_drewN|apply below_drew1|refine below_set ?_ GE1.out)|exact HB.out)⟩
 ·rw [if_neg c3] at H
  have c3b0:decide (a0 < 0) = false:=decide_eq_false c3
  clear c3
  obtain rfl:=Option.some.inj H
  have hcz4_0:w.cell? ⟨g1_,0,none⟩ = some (.slice A1 l1.length c1):=(blk_cell BK1.out 0).trans rfl
  have hfz4_0:=blk_frozen BK1.out 0
  go_enter Try.func123,Try.ntmps123
  go_wp2
  go_ret
  exact ⟨by first|rfl|(simp [errW_none,errW_some] <;> rfl)|(simp [*,errW_none,errW_some] <;> rfl),by repeat (first|(with_reducible first|exact HB.out|apply below_alloc|apply pw_below_drewN|apply below_drew1|refine below_set ?_ GE1.out)|exact HB.out)⟩


/-! ### impl_areOf_1_any: function 1000003 -/
def impl_areOf_1_any.f (l0:List Int) (l1:List (S81)):Option (Bool):=anyO (fun x=>impl_areOf_1.f x l1) l0
theorem impl_areOf_1_any.calls (A0:Option Addr) (c0:Nat) (l0:List Int) (A1:Option Addr) (c1:Nat) (l1:List (S81)) (g1_:Nat) (r:Bool) (w:World) (hr0:Kd.C (Kd.int .i64) w A0 l0.length l0) (hc0:l0.length ≤ c0) (hr1:Kd.C k81 w A1 l1.length l1) (hc1:l1.length ≤ c1) (hg1:w.heap[g1_]? = some (.cells #[.slice A1 l1.length c1] 53 (0,0))) (h:impl_areOf_1_any.f l0 l1 = some r) :
    Calls Try.prog 96 #[.slice A0 l0.length c0,.func (.func 123) #[] #[.pointer (some ⟨g1_,0,none⟩)]] w fun e w'=>e = .returned (.bool r) ∧ Below w.heap.size w w':=by
  exact any96 123 #[.pointer (some ⟨g1_,0,none⟩)] (enters_of Try.func123 (by kernel_rfl) rfl) (fun x=>impl_areOf_1.f x l1) A0 c0 l0 r w hr0 hc0 (fun W x b hW hx=>(impl_areOf_1.calls x g1_ A1 c1 l1 b W  (Kd.C_below hr1 hW) hc1 ((hW.block _ (Array.getElem?_eq_some_iff.1 hg1).1).trans hg1) hx).mono fun _ _ h_=>⟨h_.1,h_.2⟩) h

/-! ### impl_areOf: function 91 -/
def impl_areOf.f (l0:List (S81)) (l1:List Int):Option (Bool):=(impl_areOf_1_any.f l1 l0).bind fun t287=>(some (!t287))
set_option maxHeartbeats 8000000 in
set_option maxRecDepth 100000 in
theorem impl_areOf.calls (A0:Option Addr) (c0:Nat) (l0:List (S81)) (A1:Option Addr) (c1:Nat) (l1:List Int) (r:Bool) (w:World) (hr0:Kd.C k81 w A0 l0.length l0) (hc0:l0.length ≤ c0) (hr1:Kd.C (Kd.int .i64) w A1 l1.length l1) (hc1:l1.length ≤ c1) (h:impl_areOf.f l0 l1 = some r) :
  Calls Try.prog 91 #[.slice A0 l0.length c0,.slice A1 l1.length c1] w fun e w'=>e = .returned (.bool r) ∧ Below w.heap.size w w':=by
 have HR0:=Aside0.mk hr0
 have HC0:=Aside0.mk hc0
 clear hr0 hc0
 have HR1:=Aside0.mk hr1
 have HC1:=Aside0.mk hc1
 clear hr1 hc1
 have HB:=Aside0.mk (Below.refl w.heap.size w)
 have H:((impl_areOf_1_any.f l1 l0).bind fun t287=>(some (!t287))) = some r:=h
 clear h
 replace H:=Option.bind_eq_some_iff.mp H
 obtain ⟨t287,A30,H⟩:=H
 replace H:(some (!t287)) = some r:=H
 have A3:=Aside0.mk A30
 clear A30
 obtain rfl:=Option.some.inj H
 go_enter Try.func91,Try.ntmps91
 go_wp2_with (first|((with_reducible refine gate_dst (N:=2) rfl ?_);refine box_event ?hg (N:=2) ?hd (cs:=#[.slice A0 l0.length c0]) (t:=53) ?hr ?_;(case hd=>rfl);(case hg=>rfl);(case hr=>first|(go_simp;done)|(go_simp;rfl));intro gb286 hg w4 hbox hb;have n0_:=Aside0.mk (below_step (by repeat (first|(with_reducible first|exact HB.out|apply below_alloc|apply pw_below_drewN|apply below_drew1)|exact HB.out)) hb);have n1_:=Aside0.mk (hbox);have n2_:=Aside0.mk ((by rw [hg];exact (below_size (by repeat (first|(with_reducible first|exact HB.out|apply below_alloc|apply pw_below_drewN|apply below_drew1)|exact HB.out))):w.heap.size ≤ gb286));have n3_:=Aside0.mk ((by rw [hg];exact (below_size (by repeat (first|(with_reducible first|exact HB.out|apply below_alloc|apply pw_below_drewN|apply below_drew1)|exact HB.out))):w.heap.size ≤ gb286));clear HB;have HB:=n0_;have BK286:=n1_;have GW286:=n2_;have GE286:=n3_;clear n0_ n1_ n2_ n3_;clear hb hbox hg)|(go_at_call 96;(with_reducible refine (impl_areOf_1_any.calls _ _ l1 A0 c0 l0 gb286 t287 _ ?side1 ?side2 ?side3 ?side4 ?side5 A3.out).mono ?_);(case side1=>repeat (first|exact (Kd.C_below HR1.out HB.out)|(with_reducible refine Kd.C_alloc ?_ _)|(with_reducible refine Kd.C_drewN ?_ _)|(with_reducible refine Kd.C_drew ?_)));(case side2=>exact HC1.out);(case side3=>repeat (first|exact (Kd.C_below HR0.out HB.out)|(with_reducible refine Kd.C_alloc ?_ _)|(with_reducible refine Kd.C_drewN ?_ _)|(with_reducible refine Kd.C_drew ?_)));(case side4=>exact HC0.out);(case side5=>(with_reducible repeat (first|refine blk_drewN ?_ _|refine blk_drew ?_|refine blk_alloc ?_ _));exact BK286.out);rintro e w5 ⟨rfl,hb⟩;have n0_:=Aside0.mk (blk_below (g:=gb286) (o:=.cells #[.slice A0 l0.length c0] 53 (0,0)) (by (with_reducible repeat (first|refine blk_drewN ?_ _|refine blk_drew ?_|refine blk_alloc ?_ _));exact BK286.out) hb);have n1_:=Aside0.mk (below_step (by repeat (first|(with_reducible first|exact HB.out|apply below_alloc|apply pw_below_drewN|apply below_drew1|refine below_set ?_ GE286.out)|exact HB.out)) hb);clear BK286;clear HB;have BK286:=n0_;have HB:=n1_;clear n0_ n1_;(try clear hb);(try clear hb2);(try clear hk);(try clear hi)))
 go_ret
 exact ⟨by first|rfl|(simp [errW_none,errW_some] <;> rfl)|(simp [*,errW_none,errW_some] <;> rfl),by repeat (first|(with_reducible first|exact HB.out|apply below_alloc|apply pw_below_drewN|apply below_drew1|refine below_set ?_ GE286.out)|exact HB.out)⟩

/-! ### impl_areLinked: function 58 -/
mutual
def impl_areLinked.j0:Nat → List (S81) → Bool → Option (Bool)
 | 0,_,_=>none
 | k + 1,x1,x15=>if x15 = true then (some false) else (impl_areLinked.l0 k x1 x1 (x1.length:Int) 0)
def impl_areLinked.l0:Nat → List (S81) → List (S81) → Int → Int → Option (Bool)
 | 0,_,_,_,_=>none
 | k + 1,x1,x16,x17,x18=>if x18 < x17 then (if 0 ≤ x18 then (if x18 < (x16.length:Int) then (if x18 ≤ (x1.length:Int) then ((impl_areOf.f (x1.take (x18:Int).toNat) ((rd_T81 x16 x18).f1)).bind fun t297=>(if t297 = true then (impl_areLinked.l0 k x1 x16 x17 (wrap64 (x18 + 1))) else (some false))) else (none)) else (none)) else (none)) else (some true)
end
def impl_areLinked.f (k:Nat) (l0_0:List Int) (l1:List (S81)):Option (Bool):=(impl_GoodSign.f l0_0).bind fun t289=>(if t289 = true then ((impl_Sign_areSteps.f k l0_0 l1).bind fun t290=>(impl_areLinked.j0 k l1 (!t290))) else (impl_areLinked.j0 k l1 true))
theorem impl_areLinked.mono_l:∀ k,(∀ y0 y1,LeO (impl_areLinked.j0 k y0 y1) (impl_areLinked.j0 (k + 1) y0 y1)) ∧ (∀ y0 y1 y2 y3,LeO (impl_areLinked.l0 k y0 y1 y2 y3) (impl_areLinked.l0 (k + 1) y0 y1 y2 y3))
 | 0=>⟨fun _ _ r h=>by simp [impl_areLinked.j0] at h,fun _ _ _ _ r h=>by simp [impl_areLinked.l0] at h⟩
 | k + 1=>by
  obtain ⟨ih0,ih1⟩:=impl_areLinked.mono_l k
  refine ⟨?_,?_⟩
  ·intro y0 y1
   unfold impl_areLinked.j0
   repeat' first
   | (with_reducible exact ih0 _ _)
   | (with_reducible exact ih1 _ _ _ _)
   | (with_reducible exact impl_Sign_areSteps.mono _ _ _)
   | (with_reducible exact LeO.refl _)
   | (with_reducible exact LeO.none _)
   | (with_reducible refine LeO.ite ?_ ?_)
   | (with_reducible refine LeO.bind ?_ (fun _=>?_))
   | exact ih0 _ _
   | exact ih1 _ _ _ _
   | exact impl_Sign_areSteps.mono _ _ _
   | exact LeO.none _
   | refine LeO.ite ?_ ?_
   | refine LeO.bind ?_ (fun _=>?_)
  ·intro y0 y1 y2 y3
   unfold impl_areLinked.l0
   repeat' first
   | (with_reducible exact ih0 _ _)
   | (with_reducible exact ih1 _ _ _ _)
   | (with_reducible exact impl_Sign_areSteps.mono _ _ _)
   | (with_reducible exact LeO.refl _)
   | (with_reducible exact LeO.none _)
   | (with_reducible refine LeO.ite ?_ ?_)
   | (with_reducible refine LeO.bind ?_ (fun _=>?_))
   | exact ih0 _ _
   | exact ih1 _ _ _ _
   | exact impl_Sign_areSteps.mono _ _ _
   | exact LeO.none _
   | refine LeO.ite ?_ ?_
   | refine LeO.bind ?_ (fun _=>?_)
theorem impl_areLinked.mono:∀ a0 a1 k,LeO (impl_areLinked.f k a0 a1) (impl_areLinked.f (k + 1) a0 a1):=by
 intro a0 a1 k
 obtain ⟨ih0,ih1⟩:=impl_areLinked.mono_l k
 unfold impl_areLinked.f
 repeat' first
   | (with_reducible exact ih0 _ _)
   | (with_reducible exact ih1 _ _ _ _)
   | (with_reducible exact impl_Sign_areSteps.mono _ _ _)
   | (with_reducible exact LeO.refl _)
   | (with_reducible exact LeO.none _)
   | (with_reducible refine LeO.ite ?_ ?_)
   | (with_reducible refine LeO.bind ?_ (fun _=>?_))
   | exact ih0 _ _
   | exact ih1 _ _ _ _
   | exact impl_Sign_areSteps.mono _ _ _
   | exact LeO.none _
   | refine LeO.ite ?_ ?_
   | refine LeO.bind ?_ (fun _=>?_)
set_option maxHeartbeats 8000000 in
set_option maxRecDepth 100000 in
theorem impl_areLinked.calls (k:Nat) (A0_0:Option Addr) (c0_0:Nat) (l0_0:List Int) (A1:Option Addr) (c1:Nat) (l1:List (S81)) (r:Bool) (w:World) (hr0_0:Kd.C (Kd.int .i64) w A0_0 l0_0.length l0_0) (hc0_0:l0_0.length ≤ c0_0) (hr1:Kd.C k81 w A1 l1.length l1) (hc1:l1.length ≤ c1) (h:impl_areLinked.f k l0_0 l1 = some r) :
  Calls Try.prog 58 #[.agg #[.slice A0_0 l0_0.length c0_0],.slice A1 l1.length c1] w fun e w'=>e = .returned (.bool r) ∧ Below w.heap.size w w':=by
 have hu30:=Try.underlying30
 have hu81:=Try.underlying81
 have HR0_0:=Aside0.mk hr0_0
 have HC0_0:=Aside0.mk hc0_0
 clear hr0_0 hc0_0
 have HR1:=Aside0.mk hr1
 have HC1:=Aside0.mk hc1
 clear hr1 hc1
 have HB:=Aside0.mk (Below.refl w.heap.size w)
 have H:((impl_GoodSign.f l0_0).bind fun t289=>(if t289 = true then ((impl_Sign_areSteps.f k l0_0 l1).bind fun t290=>(impl_areLinked.j0 k l1 (!t290))) else (impl_areLinked.j0 k l1 true))) = some r:=h
 clear h
 have HC3:=Aside0.mk H
 clear H
 go_enter Try.func58,Try.ntmps58
 go_upto_region 1 with (first|((with_reducible refine gate_dst (N:=2) rfl ?_);refine box_event ?hg (N:=2) ?hd (cs:=#[.slice A0_0 l0_0.length c0_0]) (t:=30) ?hr ?_;(case hd=>rfl);(case hg=>rfl);(case hr=>first|(go_simp;done)|(go_simp;rfl));intro gb288 hg w4 hbox hb;have n0_:=Aside0.mk (below_step (by repeat (first|(with_reducible first|exact HB.out|apply below_alloc|apply pw_below_drewN|apply below_drew1)|exact HB.out)) hb);have n1_:=Aside0.mk (hbox);have n2_:=Aside0.mk ((by rw [hg];exact (below_size (by repeat (first|(with_reducible first|exact HB.out|apply below_alloc|apply pw_below_drewN|apply below_drew1)|exact HB.out))):w.heap.size ≤ gb288));have n3_:=Aside0.mk ((by rw [hg];exact (below_size (by repeat (first|(with_reducible first|exact HB.out|apply below_alloc|apply pw_below_drewN|apply below_drew1)|exact HB.out))):w.heap.size ≤ gb288));clear HB;have HB:=n0_;have BK288:=n1_;have GW288:=n2_;have GE288:=n3_;clear n0_ n1_ n2_ n3_;clear hb hbox hg))
 (try simp only [Act.put,List.setIfInBounds_toArray,List.set_cons_zero,List.set_cons_succ])
 go_cut [15] (fun v15 wc=>∃ (kq:Nat) (x15_2:Bool),v15 = .bool x15_2 ∧ Aside0 (impl_areLinked.j0 kq l1 x15_2 = some r) ∧ Aside0 (kq ≤ k) ∧ Aside0 (wc.heap[gb288]? = some (.cells #[(.slice A0_0 l0_0.length c0_0)] 30 (0,0))) ∧ Aside0 (Below w.heap.size w wc))
 case first =>
  have H:=HC3.out
  clear HC3
  replace H:=Option.bind_eq_some_iff.mp H
  obtain ⟨t289,A50,H⟩:=H
  replace H:(if t289 = true then ((impl_Sign_areSteps.f k l0_0 l1).bind fun t290=>(impl_areLinked.j0 k l1 (!t290))) else (impl_areLinked.j0 k l1 true)) = some r:=H
  have A5:=Aside0.mk A50
  clear A50
  by_cases c6:t289 = true
  ·subst c6
   have H1:((impl_Sign_areSteps.f k l0_0 l1).bind fun t290=>(impl_areLinked.j0 k l1 (!t290))) = some r:=by rw [if_pos rfl] at H;exact H
   clear H
   have H:=H1
   clear H1
   replace H:=Option.bind_eq_some_iff.mp H
   obtain ⟨t290,A70,H⟩:=H
   replace H:(impl_areLinked.j0 k l1 (!t290)) = some r:=H
   have A7:=Aside0.mk A70
   clear A70
   have H':=Aside0.mk H
   clear H
   have hcz8_0:w4.cell? ⟨gb288,0,none⟩ = some (.slice A0_0 l0_0.length c0_0):=(blk_cell BK288.out 0).trans rfl
   have hfz8_0:=blk_frozen BK288.out 0
   go_wp2_with (first|((with_reducible refine gate_callee (f:=64) rfl ?_);refine goesL_ (some 8) rfl rfl Try.func64 (by kernel_rfl) rfl #[.agg #[.slice A0_0 l0_0.length c0_0]] rfl (by (try simp only [List.map_toArray,List.map_cons,List.map_nil]);first|done|rfl|(simp only [List.length_drop,List.length_take];rfl)) ?_;(with_reducible refine (impl_GoodSign.calls _ _ l0_0 true _ ?side1 ?side2 A5.out).mono ?_);(case side1=>repeat (first|exact (Kd.C_below HR0_0.out HB.out)|(with_reducible refine Kd.C_alloc ?_ _)|(with_reducible refine Kd.C_drewN ?_ _)|(with_reducible refine Kd.C_drew ?_)));(case side2=>exact HC0_0.out);rintro e w9 ⟨rfl,hb⟩;refine ⟨_,rfl,?_⟩;have n0_:=Aside0.mk (blk_below (g:=gb288) (o:=.cells #[.slice A0_0 l0_0.length c0_0] 30 (0,0)) (by (with_reducible repeat (first|refine blk_drewN ?_ _|refine blk_drew ?_|refine blk_alloc ?_ _));exact BK288.out) hb);have n1_:=Aside0.mk (below_step (by repeat (first|(with_reducible first|exact HB.out|apply below_alloc|apply pw_below_drewN|apply below_drew1|refine below_set ?_ GE288.out)|exact HB.out)) hb);clear BK288;clear HB;have BK288:=n0_;have HB:=n1_;clear n0_ n1_;(try clear hb);(try clear hb2);(try clear hk);(try clear hi);have hcz10_0:w9.cell? ⟨gb288,0,none⟩ = some (.slice A0_0 l0_0.length c0_0):=(blk_cell BK288.out 0).trans rfl;have hfz10_0:=blk_frozen BK288.out 0)|(go_at_call 90;(with_reducible refine (impl_Sign_areSteps.calls k _ _ l0_0 _ _ l1 t290 _ ?side1 ?side2 ?side3 ?side4 A7.out).mono ?_);(case side1=>repeat (first|exact (Kd.C_below HR0_0.out HB.out)|(with_reducible refine Kd.C_alloc ?_ _)|(with_reducible refine Kd.C_drewN ?_ _)|(with_reducible refine Kd.C_drew ?_)));(case side2=>exact HC0_0.out);(case side3=>repeat (first|exact (Kd.C_below HR1.out HB.out)|(with_reducible refine Kd.C_alloc ?_ _)|(with_reducible refine Kd.C_drewN ?_ _)|(with_reducible refine Kd.C_drew ?_)));(case side4=>exact HC1.out);rintro e w11 ⟨rfl,hb⟩;have n0_:=Aside0.mk (blk_below (g:=gb288) (o:=.cells #[.slice A0_0 l0_0.length c0_0] 30 (0,0)) (by (with_reducible repeat (first|refine blk_drewN ?_ _|refine blk_drew ?_|refine blk_alloc ?_ _));exact BK288.out) hb);have n1_:=Aside0.mk (below_step (by repeat (first|(with_reducible first|exact HB.out|apply below_alloc|apply pw_below_drewN|apply below_drew1|refine below_set ?_ GE288.out)|exact HB.out)) hb);clear BK288;clear HB;have BK288:=n0_;have HB:=n1_;clear n0_ n1_;(try clear hb);(try clear hb2);(try clear hk);(try clear hi)))
   go_meet
   case rel=>exact ⟨_,(!t290),(by first|rfl|(simp;done)|(simp [*];done)),H',⟨by first|omega|exact Nat.le_refl _⟩,⟨by (with_reducible repeat (first|refine blk_drewN ?_ _|refine blk_drew ?_|refine blk_alloc ?_ _));exact BK288.out⟩,⟨by repeat (first|(with_reducible first|exact HB.out|apply below_alloc|apply pw_below_drewN|apply below_drew1|refine below_set ?_ GE288.out)|exact HB.out)⟩⟩
  ·replace c6:=Bool.eq_false_iff.mpr c6
   subst c6
   have H1:(impl_areLinked.j0 k l1 true) = some r:=by rw [if_neg (show ¬ (false = true) by decide)] at H;exact H
   clear H
   have H:=H1
   clear H1
   have H':=Aside0.mk H
   clear H
   have hcz12_0:w4.cell? ⟨gb288,0,none⟩ = some (.slice A0_0 l0_0.length c0_0):=(blk_cell BK288.out 0).trans rfl
   have hfz12_0:=blk_frozen BK288.out 0
   go_wp2_with (first|((with_reducible refine gate_callee (f:=64) rfl ?_);refine goesL_ (some 8) rfl rfl Try.func64 (by kernel_rfl) rfl #[.agg #[.slice A0_0 l0_0.length c0_0]] rfl (by (try simp only [List.map_toArray,List.map_cons,List.map_nil]);first|done|rfl|(simp only [List.length_drop,List.length_take];rfl)) ?_;(with_reducible refine (impl_GoodSign.calls _ _ l0_0 false _ ?side1 ?side2 A5.out).mono ?_);(case side1=>repeat (first|exact (Kd.C_below HR0_0.out HB.out)|(with_reducible refine Kd.C_alloc ?_ _)|(with_reducible refine Kd.C_drewN ?_ _)|(with_reducible refine Kd.C_drew ?_)));(case side2=>exact HC0_0.out);rintro e w13 ⟨rfl,hb⟩;refine ⟨_,rfl,?_⟩;have n0_:=Aside0.mk (blk_below (g:=gb288) (o:=.cells #[.slice A0_0 l0_0.length c0_0] 30 (0,0)) (by (with_reducible repeat (first|refine blk_drewN ?_ _|refine blk_drew ?_|refine blk_alloc ?_ _));exact BK288.out) hb);have n1_:=Aside0.mk (below_step (by repeat (first|(with_reducible first|exact HB.out|apply below_alloc|apply pw_below_drewN|apply below_drew1|refine below_set ?_ GE288.out)|exact HB.out)) hb);clear BK288;clear HB;have BK288:=n0_;have HB:=n1_;clear n0_ n1_;(try clear hb);(try clear hb2);(try clear hk);(try clear hi)))
   go_meet
   case rel=>exact ⟨_,(true),(by first|rfl|(simp;done)|(simp [*];done)),H',⟨by first|omega|exact Nat.le_refl _⟩,⟨by (with_reducible repeat (first|refine blk_drewN ?_ _|refine blk_drew ?_|refine blk_alloc ?_ _));exact BK288.out⟩,⟨by repeat (first|(with_reducible first|exact HB.out|apply below_alloc|apply pw_below_drewN|apply below_drew1|refine below_set ?_ GE288.out)|exact HB.out)⟩⟩
 case rest =>
  clear HC3
  try clear c1
  try clear p2
  try clear c5
  try clear c6
  try clear hcz10_0
  try clear hcz12_0
  try clear hcz8_0
  try clear hfz10_0
  try clear hfz12_0
  try clear hfz8_0
  obtain ⟨kq,x15_2,rfl,HA,HJ2,BK288,HB⟩:=hcut
  cases kq with
  | zero=>exact absurd HA.out (by simp [impl_areLinked.j0])
  | succ kj2 =>
   have H:=HA.out
   clear HA
   simp only [impl_areLinked.j0] at H
   by_cases c14:x15_2 = true
   ·subst c14
    have H1:(some false) = some r:=by rw [if_pos rfl] at H;exact H
    clear H
    have H:=H1
    clear H1
    obtain rfl:=Option.some.inj H
    go_wp2
    go_ret
    exact ⟨by first|rfl|(simp [errW_none,errW_some] <;> rfl)|(simp [*,errW_none,errW_some] <;> rfl),by repeat (first|(with_reducible first|exact HB.out|apply below_alloc|apply pw_below_drewN|apply below_drew1|refine below_set ?_ GE288.out)|exact HB.out)⟩
   ·replace c14:=Bool.eq_false_iff.mpr c14
    subst c14
    have H1:(impl_areLinked.l0 kj2 l1 l1 (l1.length:Int) 0) = some r:=by rw [if_neg (show ¬ (false = true) by decide)] at H;exact H
    clear H
    have H:=H1
    clear H1
    have H':=Aside0.mk H
    clear H
    go_wp2
    go_loopg [18] kj2 (fun kq v18 w'=>∃ (x18_2:Int),v18 = .int .i64 x18_2 ∧ Aside0 (impl_areLinked.l0 kq l1 l1 (l1.length:Int) x18_2 = some r) ∧ Aside0 (kq ≤ kj2) ∧ Aside0 (w'.heap[gb288]? = some (.cells #[(.slice A0_0 l0_0.length c0_0)] 30 (0,0))) ∧ Aside0 (Below w.heap.size w w'))
    case atStart=>exact ⟨(0),(by first|rfl|(simp;done)|(simp [*];done)),H',⟨Nat.le_refl _⟩,⟨by (with_reducible repeat (first|refine blk_drewN ?_ _|refine blk_drew ?_|refine blk_alloc ?_ _));exact BK288.out⟩,⟨by repeat (first|(with_reducible first|exact HB.out|apply below_alloc|apply pw_below_drewN|apply below_drew1|refine below_set ?_ GE288.out)|exact HB.out)⟩⟩
    case round =>
     clear H'
     try clear c1
     try clear p2
     try clear c5
     try clear c6
     try clear c14
     try clear hcz10_0
     try clear hcz12_0
     try clear hcz8_0
     try clear hfz10_0
     try clear hfz12_0
     try clear hfz8_0
     try clear p2
     obtain ⟨x18_2,rfl,HA,HK2,BK288,HB⟩:=hrel
     cases gk with
     | zero=>exact absurd HA.out (by simp [impl_areLinked.l0])
     | succ k2 =>
      have H:=HA.out
      clear HA
      simp only [impl_areLinked.l0] at H
      by_cases c15:x18_2 < (l1.length:Int)
      ·rw [if_pos c15] at H
       have c15b0:decide (x18_2 < (l1.length:Int)) = true:=decide_eq_true c15
       clear c15
       by_cases c16:0 ≤ x18_2
       ·rw [if_pos c16] at H
        have c16b0:decide (0 ≤ x18_2) = true:=decide_eq_true c16
        clear c16
        by_cases c17:x18_2 < (l1.length:Int)
        ·rw [if_pos c17] at H
         have c17b0:decide (x18_2 < (l1.length:Int)) = true:=decide_eq_true c17
         clear c17
         have c18b0:=eq_true (of_decide_eq_true (by first|(with_reducible assumption)|assumption):0 ≤ x18_2)
         by_cases c19:x18_2 ≤ (l1.length:Int)
         ·rw [if_pos c19] at H
          have c19b0:=eq_true c19
          have c19b1:decide (x18_2 ≤ (l1.length:Int)) = true:=decide_eq_true c19
          clear c19
          obtain ⟨y293,hy293⟩:∃ y_:List (S81),y_ = (l1.take (x18_2:Int).toNat):=⟨_,rfl⟩
          replace H:((impl_areOf.f y293 ((rd_T81 l1 x18_2).f1)).bind fun t297=>(if t297 = true then (impl_areLinked.l0 k2 l1 l1 (l1.length:Int) (wrap64 (x18_2 + 1))) else (some false))) = some r:=by first|(rw [hy293];with_reducible exact H)|(have H2_:=(Option.bind_some _ _).symm.trans H;rw [hy293];with_reducible exact H2_)|(have H2_:=(Option.bind_some _ _).symm.trans H;with_reducible exact H2_)|with_reducible exact H|(rw [hy293];exact H)|exact H
          have Ny293:=Aside0.mk hy293
          clear hy293
          replace H:=Option.bind_eq_some_iff.mp H
          obtain ⟨t297,A200,H⟩:=H
          replace H:(if t297 = true then (impl_areLinked.l0 k2 l1 l1 (l1.length:Int) (wrap64 (x18_2 + 1))) else (some false)) = some r:=H
          have A20:=Aside0.mk A200
          clear A200
          by_cases c21:t297 = true
          ·subst c21
           have H1:(impl_areLinked.l0 k2 l1 l1 (l1.length:Int) (wrap64 (x18_2 + 1))) = some r:=by rw [if_pos rfl] at H;exact H
           clear H
           have H:=H1
           clear H1
           have H':=Aside0.mk H
           clear H
           have p291:0 ≤ (x18_2:Int):=of_decide_eq_true (by first|(with_reducible assumption)|assumption)
           have q291:x18_2 < (l1.length:Int):=of_decide_eq_true (by first|(with_reducible assumption)|assumption)
           obtain ⟨ad291,A291_1,c291_1,A291_2,c291_2,A291_3,c291_3,e291,hx291_0,hx291_1,hx291_2,hx291_3,hl291_1,hi291_1,hl291_2,hi291_2,hl291_3,hi291_3⟩:=at_T81 HR1.out x18_2 p291 q291
           cases e291
           replace hx291_0:=(HB.out.cell (World.block_lt_of_cell? w _ hx291_0)).trans hx291_0
           replace hx291_1:=(HB.out.cell (World.block_lt_of_cell? w _ hx291_1)).trans hx291_1
           replace hx291_2:=(HB.out.cell (World.block_lt_of_cell? w _ hx291_2)).trans hx291_2
           replace hx291_3:=(HB.out.cell (World.block_lt_of_cell? w _ hx291_3)).trans hx291_3
           have HR291_1:=Aside0.mk hi291_1
           have HC291_1:=Aside0.mk hl291_1
           clear hi291_1 hl291_1
           have HR291_2:=Aside0.mk hi291_2
           have HC291_2:=Aside0.mk hl291_2
           clear hi291_2 hl291_2
           have HR291_3:=Aside0.mk hi291_3
           have HC291_3:=Aside0.mk hl291_3
           clear hi291_3 hl291_3
           replace p291:=eq_true p291
           replace q291:=eq_true q291
           try go_wp2_with (first|((with_reducible refine gate_dst (N:=6) rfl ?_);refine box_event ?hg (N:=6) ?hd (cs:=#[.int .i64 0,.slice none 0 0,.slice none 0 0,.slice none 0 0]) (t:=81) ?hr ?_;(case hd=>rfl);(case hg=>rfl);(case hr=>first|(go_simp;done)|(go_simp;rfl));intro gb292 hg w22 hbox hb;have n0_:=Aside0.mk (blk_below (g:=gb288) (o:=.cells #[.slice A0_0 l0_0.length c0_0] 30 (0,0)) (by (with_reducible repeat (first|refine blk_drewN ?_ _|refine blk_drew ?_|refine blk_alloc ?_ _));exact BK288.out) hb);have n1_:=Aside0.mk (below_step (by repeat (first|(with_reducible first|exact HB.out|apply below_alloc|apply pw_below_drewN|apply below_drew1|refine below_set ?_ GE288.out)|exact HB.out)) hb);have n2_:=Aside0.mk (hbox);have n3_:=Aside0.mk ((by rw [hg];exact (below_size (by repeat (first|(with_reducible first|exact HB.out|apply below_alloc|apply pw_below_drewN|apply below_drew1|refine below_set ?_ GE288.out)|exact HB.out))):w.heap.size ≤ gb292));have n4_:=Aside0.mk ((by rw [hg];exact (below_size (by repeat (first|(with_reducible first|exact HB.out|apply below_alloc|apply pw_below_drewN|apply below_drew1|refine below_set ?_ GE288.out)|exact HB.out))):w.heap.size ≤ gb292));have n5_:=Aside0.mk ((by rw [hg];exact Nat.ne_of_lt (blk_lt (g:=gb288) (o:=.cells #[.slice A0_0 l0_0.length c0_0] 30 (0,0)) (by (with_reducible repeat (first|refine blk_drewN ?_ _|refine blk_drew ?_|refine blk_alloc ?_ _));exact BK288.out)):gb288 ≠ gb292));have n6_:=Aside0.mk ((by rw [hg];exact Nat.ne_of_gt (blk_lt (g:=gb288) (o:=.cells #[.slice A0_0 l0_0.length c0_0] 30 (0,0)) (by (with_reducible repeat (first|refine blk_drewN ?_ _|refine blk_drew ?_|refine blk_alloc ?_ _));exact BK288.out)):gb292 ≠ gb288));clear BK288;clear HB;have BK288:=n0_;have HB:=n1_;have BK292:=n2_;have GW292:=n3_;have GE292:=n4_;have NB288_292:=n5_;have NB292_288:=n6_;clear n0_ n1_ n2_ n3_ n4_ n5_ n6_;clear hb hbox hg;have hnb23:=NB292_288.out;have hnc23:=NB288_292.out;have hcz24_0:w22.cell? ⟨gb292,0,none⟩ = some (.int .i64 0):=(blk_cell BK292.out 0).trans rfl;have hcz24_1:w22.cell? ⟨gb292,1,none⟩ = some (.slice none 0 0):=(blk_cell BK292.out 1).trans rfl;have hcz24_2:w22.cell? ⟨gb292,2,none⟩ = some (.slice none 0 0):=(blk_cell BK292.out 2).trans rfl;have hcz24_3:w22.cell? ⟨gb292,3,none⟩ = some (.slice none 0 0):=(blk_cell BK292.out 3).trans rfl;have hfz24_0:=blk_frozen BK292.out 0;have hfz24_1:=blk_frozen BK292.out 1;have hfz24_2:=blk_frozen BK292.out 2;have hfz24_3:=blk_frozen BK292.out 3))
           have n0_:Aside0 (((((w22.setCell ⟨gb292,0,none⟩ (.int .i64 ((rd_T81 l1 x18_2).f0))).setCell ⟨gb292,1,none⟩ (.slice A291_1 ((rd_T81 l1 x18_2).f1).length c291_1)).setCell ⟨gb292,2,none⟩ (.slice A291_2 ((rd_T81 l1 x18_2).f2).length c291_2)).setCell ⟨gb292,3,none⟩ (.slice A291_3 ((rd_T81 l1 x18_2).f3).length c291_3)).heap[gb288]? = some (.cells #[.slice A0_0 l0_0.length c0_0] 30 (0,0))):=⟨by (with_reducible repeat (first|refine blk_drewN ?_ _|refine blk_drew ?_|refine blk_alloc ?_ _));refine blk_far ?_ NB288_292.out _;(with_reducible repeat (first|refine blk_drewN ?_ _|refine blk_drew ?_|refine blk_alloc ?_ _));refine blk_far ?_ NB288_292.out _;(with_reducible repeat (first|refine blk_drewN ?_ _|refine blk_drew ?_|refine blk_alloc ?_ _));refine blk_far ?_ NB288_292.out _;(with_reducible repeat (first|refine blk_drewN ?_ _|refine blk_drew ?_|refine blk_alloc ?_ _));refine blk_far ?_ NB288_292.out _;(with_reducible repeat (first|refine blk_drewN ?_ _|refine blk_drew ?_|refine blk_alloc ?_ _));exact BK288.out⟩
           have n1_:Aside0 (((((w22.setCell ⟨gb292,0,none⟩ (.int .i64 ((rd_T81 l1 x18_2).f0))).setCell ⟨gb292,1,none⟩ (.slice A291_1 ((rd_T81 l1 x18_2).f1).length c291_1)).setCell ⟨gb292,2,none⟩ (.slice A291_2 ((rd_T81 l1 x18_2).f2).length c291_2)).setCell ⟨gb292,3,none⟩ (.slice A291_3 ((rd_T81 l1 x18_2).f3).length c291_3)).heap[gb292]? = some (.cells #[.int .i64 ((rd_T81 l1 x18_2).f0),.slice A291_1 ((rd_T81 l1 x18_2).f1).length c291_1,.slice A291_2 ((rd_T81 l1 x18_2).f2).length c291_2,.slice A291_3 ((rd_T81 l1 x18_2).f3).length c291_3] 81 (0,0))):=⟨by (with_reducible repeat (first|refine blk_drewN ?_ _|refine blk_drew ?_|refine blk_alloc ?_ _));refine blk_put (cs:=#[.int .i64 ((rd_T81 l1 x18_2).f0),.slice A291_1 ((rd_T81 l1 x18_2).f1).length c291_1,.slice A291_2 ((rd_T81 l1 x18_2).f2).length c291_2,.slice none 0 0]) ?_ 3 _ rfl;(with_reducible repeat (first|refine blk_drewN ?_ _|refine blk_drew ?_|refine blk_alloc ?_ _));refine blk_put (cs:=#[.int .i64 ((rd_T81 l1 x18_2).f0),.slice A291_1 ((rd_T81 l1 x18_2).f1).length c291_1,.slice none 0 0,.slice none 0 0]) ?_ 2 _ rfl;(with_reducible repeat (first|refine blk_drewN ?_ _|refine blk_drew ?_|refine blk_alloc ?_ _));refine blk_put (cs:=#[.int .i64 ((rd_T81 l1 x18_2).f0),.slice none 0 0,.slice none 0 0,.slice none 0 0]) ?_ 1 _ rfl;(with_reducible repeat (first|refine blk_drewN ?_ _|refine blk_drew ?_|refine blk_alloc ?_ _));refine blk_put (cs:=#[.int .i64 0,.slice none 0 0,.slice none 0 0,.slice none 0 0]) ?_ 0 _ rfl;(with_reducible repeat (first|refine blk_drewN ?_ _|refine blk_drew ?_|refine blk_alloc ?_ _));exact BK292.out⟩
           have n2_:Aside0 (Below w.heap.size w ((((w22.setCell ⟨gb292,0,none⟩ (.int .i64 ((rd_T81 l1 x18_2).f0))).setCell ⟨gb292,1,none⟩ (.slice A291_1 ((rd_T81 l1 x18_2).f1).length c291_1)).setCell ⟨gb292,2,none⟩ (.slice A291_2 ((rd_T81 l1 x18_2).f2).length c291_2)).setCell ⟨gb292,3,none⟩ (.slice A291_3 ((rd_T81 l1 x18_2).f3).length c291_3))):=⟨by repeat (first|(with_reducible first|exact HB.out|apply below_alloc|apply pw_below_drewN|apply below_drew1|refine below_set ?_ GE288.out|refine below_set ?_ GE292.out)|exact HB.out)⟩
           (try clear BK288)
           (try clear BK292)
           (try clear HB)
           generalize ((((w22.setCell ⟨gb292,0,none⟩ (.int .i64 ((rd_T81 l1 x18_2).f0))).setCell ⟨gb292,1,none⟩ (.slice A291_1 ((rd_T81 l1 x18_2).f1).length c291_1)).setCell ⟨gb292,2,none⟩ (.slice A291_2 ((rd_T81 l1 x18_2).f2).length c291_2)).setCell ⟨gb292,3,none⟩ (.slice A291_3 ((rd_T81 l1 x18_2).f3).length c291_3)) = w25 at n0_ n1_ n2_ ⊢
           have BK288:=n0_
           have BK292:=n1_
           have HB:=n2_
           clear n0_ n1_ n2_
           have n0_:=Aside0.mk (blk_drew BK288.out)
           have n1_:=Aside0.mk (blk_drew BK292.out)
           have n2_:=Aside0.mk (below_drew1 HB.out)
           clear BK288
           clear BK292
           clear HB
           have BK288:=n0_
           have BK292:=n1_
           have HB:=n2_
           clear n0_ n1_ n2_
           have q27:(x18_2:Int) ≤ ((l1.length:Int):Int):=of_decide_eq_true (by first|(with_reducible assumption)|assumption)
           obtain ⟨i027,hi027,_,hsz27,_⟩:=info_parts info81
           have hroom27:l1.length ≤ c1:=HC1.out
           have hC27:Kd.C k81 _ (some ad291) l1.length l1:=HR1.out
           have hcut27:=cut_to (P:=Try.prog) 53 81 .i64 Try.underlying53 hi027 (some ad291) l1.length c1 x18_2 (of_decide_eq_true (by first|(with_reducible assumption)|assumption)) q27 hroom27
           have hr27:=Kd.C_take (m:=(x18_2:Int).toNat) hC27 (by omega)
           have hy27:y293.length = (x18_2:Int).toNat:=(by rw [Ny293.out,List.length_take];omega)
           rw [← Ny293.out] at hr27
           rw [← hy27] at hcut27
           have HR296:=Aside0.mk hr27
           have HC296:=Aside0.mk (show y293.length ≤ c1 from by omega)
           clear hr27 hC27 hroom27 hi027 hsz27
           have KY27:=Aside0.mk hy27
           clear hy27
           replace q27:=eq_true q27
           refine start_ (n:=7) (S:=fun w'=>w'.cell? ⟨gb292,0,none⟩ = some (.int .i64 ((rd_T81 l1 x18_2).f0)) ∧ w'.cell? ⟨gb292,1,none⟩ = some (.slice A291_1 ((rd_T81 l1 x18_2).f1).length c291_1) ∧ w'.cell? ⟨gb292,2,none⟩ = some (.slice A291_2 ((rd_T81 l1 x18_2).f2).length c291_2) ∧ w'.cell? ⟨gb292,3,none⟩ = some (.slice A291_3 ((rd_T81 l1 x18_2).f3).length c291_3)) (ds:=[]) #[false,false,false,false,false,false,false] (by kernel_rfl) rfl rfl ⟨(blk_cell BK292.out 0).trans rfl,(blk_cell BK292.out 1).trans rfl,(blk_cell BK292.out 2).trans rfl,(blk_cell BK292.out 3).trans rfl⟩ (fun hHeld=>?_)
           generalize w25.drew = w26 at BK288 BK292 HB HR296 hHeld ⊢
           refine pure_ (i:=0) (N:=some 23) (v:=?_) (a':=?_) #[true,false,false,false,false,false,false] rfl rfl (by kernel_rfl) (fun _ _ _ h=>h) (Or.inl ⟨by rfl,?_⟩) ?_ ?_
           rotate_left
           ·intro w'
            go_simp
            with_reducible rfl
           rotate_left
           ·simp only [Act.put,List.setIfInBounds_toArray,List.set_cons_zero,List.set_cons_succ,i64_w,i32_w]
            rfl
           refine pure_ (i:=1) (N:=some 24) (v:=?_) (a':=?_) #[true,true,false,false,false,false,false] rfl rfl (by kernel_rfl) (fun _ _ _ h=>h) (Or.inl ⟨by rfl,?_⟩) ?_ ?_
           rotate_left
           ·intro w'
            go_simp
            with_reducible rfl
           rotate_left
           ·simp only [Act.put,List.setIfInBounds_toArray,List.set_cons_zero,List.set_cons_succ,i64_w,i32_w]
            rfl
           refine pure_ (i:=2) (N:=some 25) (v:=?_) (a':=?_) #[true,true,true,false,false,false,false] rfl rfl (by kernel_rfl) (fun _ _ _ h=>h) (Or.inl ⟨by rfl,?_⟩) ?_ ?_
           rotate_left
           ·intro w'
            go_simp
            with_reducible rfl
           rotate_left
           ·simp only [Act.put,List.setIfInBounds_toArray,List.set_cons_zero,List.set_cons_succ,i64_w,i32_w]
            rfl
           refine pure_ (i:=3) (N:=some 26) (v:=?_) (a':=?_) #[true,true,true,true,false,false,false] rfl rfl (by kernel_rfl) (fun _ _ _ h=>h) (Or.inl ⟨by rfl,?_⟩) ?_ ?_
           rotate_left
           ·intro w'
            go_simp
            with_reducible rfl
           rotate_left
           ·simp only [Act.put,List.setIfInBounds_toArray,List.set_cons_zero,List.set_cons_succ,i64_w,i32_w]
            rfl
           refine take_ (i:=4) (N:=some 27) (v:=?_) (a':=?_) #[true,true,true,true,true,false,false] rfl rfl (by kernel_rfl) (fun _ _ _ h=>h) (Or.inl ⟨by rfl,?_⟩) hHeld ?_ ?_
           rotate_left
           ·rintro w' ⟨s0,s1,s2,s3⟩
            go_simp
            with_reducible rfl
           rotate_left
           ·simp only [Act.put,List.setIfInBounds_toArray,List.set_cons_zero,List.set_cons_succ,i64_w,i32_w]
            rfl
           refine one_ (i:=5) (N:=some 28) #[true,true,true,true,true,true,false] rfl rfl (by kernel_rfl) (by decide) (fun K hK=>?_)
           refine goes_ Try.func91 (by kernel_rfl) rfl #[.slice (some ad291) y293.length c1,.slice A291_1 ((rd_T81 l1 x18_2).f1).length c291_1] (by rfl) rfl rfl (by (try simp only [List.map_toArray,List.map_cons,List.map_nil]);first|done|rfl|(simp only [List.length_drop,List.length_take];rfl)) ?_
           with_reducible refine (impl_areOf.calls _ _ y293 _ _ ((rd_T81 l1 x18_2).f1) true _ ?side1 ?side2 ?side3 ?side4 A20.out).mono ?_
           (case side1=>repeat (first|exact (Kd.C_below HR296.out HB.out)|(with_reducible refine Kd.C_alloc ?_ _)|(with_reducible refine Kd.C_drewN ?_ _)|(with_reducible refine Kd.C_drew ?_)))
           (case side2=>exact HC296.out)
           (case side3=>repeat (first|exact (Kd.C_below HR291_1.out HB.out)|(with_reducible refine Kd.C_alloc ?_ _)|(with_reducible refine Kd.C_drewN ?_ _)|(with_reducible refine Kd.C_drew ?_)))
           (case side4=>exact HC291_1.out)
           rintro e w28 ⟨rfl,hb⟩
           refine ⟨_,rfl,?_⟩
           have n0_:=Aside0.mk (blk_below (g:=gb288) (o:=.cells #[.slice A0_0 l0_0.length c0_0] 30 (0,0)) (by (with_reducible repeat (first|refine blk_drewN ?_ _|refine blk_drew ?_|refine blk_alloc ?_ _));exact BK288.out) hb)
           have n1_:=Aside0.mk (blk_below (g:=gb292) (o:=.cells #[.int .i64 ((rd_T81 l1 x18_2).f0),.slice A291_1 ((rd_T81 l1 x18_2).f1).length c291_1,.slice A291_2 ((rd_T81 l1 x18_2).f2).length c291_2,.slice A291_3 ((rd_T81 l1 x18_2).f3).length c291_3] 81 (0,0)) (by (with_reducible repeat (first|refine blk_drewN ?_ _|refine blk_drew ?_|refine blk_alloc ?_ _));exact BK292.out) hb)
           have n2_:=Aside0.mk (below_step (by repeat (first|(with_reducible first|exact HB.out|apply below_alloc|apply pw_below_drewN|apply below_drew1|refine below_set ?_ GE288.out|refine below_set ?_ GE292.out)|exact HB.out)) hb)
           clear BK288
           clear BK292
           clear HB
           have BK288:=n0_
           have BK292:=n1_
           have HB:=n2_
           clear n0_ n1_ n2_
           (try clear hb)
           (try clear hb2)
           (try clear hk)
           (try clear hi)
           refine hK.out _ _ ⟨(blk_cell BK292.out 0).trans rfl,(blk_cell BK292.out 1).trans rfl,(blk_cell BK292.out 2).trans rfl,(blk_cell BK292.out 3).trans rfl⟩ (fun hHeld=>?_)
           clear hK K
           refine norm_ (a':=?_) ?_ ?_
           rotate_left
           ·show Act.put _ (some 28) _ = _
            simp only [Act.put,List.setIfInBounds_toArray,List.set_cons_zero,List.set_cons_succ,i64_w,i32_w]
            rfl
           refine pure_ (i:=6) (N:=some 29) (v:=?_) (a':=?_) #[true,true,true,true,true,true,true] rfl rfl (by kernel_rfl) (fun _ _ _ h=>h) (Or.inl ⟨by rfl,?_⟩) ?_ ?_
           rotate_left
           ·intro w'
            go_simp
            with_reducible rfl
           rotate_left
           ·simp only [Act.put,List.setIfInBounds_toArray,List.set_cons_zero,List.set_cons_succ,i64_w,i32_w]
            rfl
           refine done_ (by kernel_rfl) ?_
           try go_wp2
           go_roundg k2
           case measure=>have:=HJ2.out;have:=HK2.out;omega
           case rel=>exact ⟨(wrap64 (x18_2 + 1)),(by first|rfl|(simp;done)|(simp [*];done)),H',⟨by have:=HJ2.out;have:=HK2.out;omega⟩,⟨by (with_reducible repeat (first|refine blk_drewN ?_ _|refine blk_drew ?_|refine blk_alloc ?_ _));exact BK288.out⟩,⟨by repeat (first|(with_reducible first|exact HB.out|apply below_alloc|apply pw_below_drewN|apply below_drew1|refine below_set ?_ GE288.out|refine below_set ?_ GE292.out)|exact HB.out)⟩⟩
          ·replace c21:=Bool.eq_false_iff.mpr c21
           subst c21
           have H1:(some false) = some r:=by rw [if_neg (show ¬ (false = true) by decide)] at H;exact H
           clear H
           have H:=H1
           clear H1
           obtain rfl:=Option.some.inj H
           have p291:0 ≤ (x18_2:Int):=of_decide_eq_true (by first|(with_reducible assumption)|assumption)
           have q291:x18_2 < (l1.length:Int):=of_decide_eq_true (by first|(with_reducible assumption)|assumption)
           obtain ⟨ad291,A291_1,c291_1,A291_2,c291_2,A291_3,c291_3,e291,hx291_0,hx291_1,hx291_2,hx291_3,hl291_1,hi291_1,hl291_2,hi291_2,hl291_3,hi291_3⟩:=at_T81 HR1.out x18_2 p291 q291
           cases e291
           replace hx291_0:=(HB.out.cell (World.block_lt_of_cell? w _ hx291_0)).trans hx291_0
           replace hx291_1:=(HB.out.cell (World.block_lt_of_cell? w _ hx291_1)).trans hx291_1
           replace hx291_2:=(HB.out.cell (World.block_lt_of_cell? w _ hx291_2)).trans hx291_2
           replace hx291_3:=(HB.out.cell (World.block_lt_of_cell? w _ hx291_3)).trans hx291_3
           have HR291_1:=Aside0.mk hi291_1
           have HC291_1:=Aside0.mk hl291_1
           clear hi291_1 hl291_1
           have HR291_2:=Aside0.mk hi291_2
           have HC291_2:=Aside0.mk hl291_2
           clear hi291_2 hl291_2
           have HR291_3:=Aside0.mk hi291_3
           have HC291_3:=Aside0.mk hl291_3
           clear hi291_3 hl291_3
           replace p291:=eq_true p291
           replace q291:=eq_true q291
           try go_wp2_with (first|((with_reducible refine gate_dst (N:=6) rfl ?_);refine box_event ?hg (N:=6) ?hd (cs:=#[.int .i64 0,.slice none 0 0,.slice none 0 0,.slice none 0 0]) (t:=81) ?hr ?_;(case hd=>rfl);(case hg=>rfl);(case hr=>first|(go_simp;done)|(go_simp;rfl));intro gb292 hg w29 hbox hb;have n0_:=Aside0.mk (blk_below (g:=gb288) (o:=.cells #[.slice A0_0 l0_0.length c0_0] 30 (0,0)) (by (with_reducible repeat (first|refine blk_drewN ?_ _|refine blk_drew ?_|refine blk_alloc ?_ _));exact BK288.out) hb);have n1_:=Aside0.mk (below_step (by repeat (first|(with_reducible first|exact HB.out|apply below_alloc|apply pw_below_drewN|apply below_drew1|refine below_set ?_ GE288.out)|exact HB.out)) hb);have n2_:=Aside0.mk (hbox);have n3_:=Aside0.mk ((by rw [hg];exact (below_size (by repeat (first|(with_reducible first|exact HB.out|apply below_alloc|apply pw_below_drewN|apply below_drew1|refine below_set ?_ GE288.out)|exact HB.out))):w.heap.size ≤ gb292));have n4_:=Aside0.mk ((by rw [hg];exact (below_size (by repeat (first|(with_reducible first|exact HB.out|apply below_alloc|apply pw_below_drewN|apply below_drew1|refine below_set ?_ GE288.out)|exact HB.out))):w.heap.size ≤ gb292));have n5_:=Aside0.mk ((by rw [hg];exact Nat.ne_of_lt (blk_lt (g:=gb288) (o:=.cells #[.slice A0_0 l0_0.length c0_0] 30 (0,0)) (by (with_reducible repeat (first|refine blk_drewN ?_ _|refine blk_drew ?_|refine blk_alloc ?_ _));exact BK288.out)):gb288 ≠ gb292));have n6_:=Aside0.mk ((by rw [hg];exact Nat.ne_of_gt (blk_lt (g:=gb288) (o:=.cells #[.slice A0_0 l0_0.length c0_0] 30 (0,0)) (by (with_reducible repeat (first|refine blk_drewN ?_ _|refine blk_drew ?_|refine blk_alloc ?_ _));exact BK288.out)):gb292 ≠ gb288));clear BK288;clear HB;have BK288:=n0_;have HB:=n1_;have BK292:=n2_;have GW292:=n3_;have GE292:=n4_;have NB288_292:=n5_;have NB292_288:=n6_;clear n0_ n1_ n2_ n3_ n4_ n5_ n6_;clear hb hbox hg;have hnb30:=NB292_288.out;have hnc30:=NB288_292.out;have hcz31_0:w29.cell? ⟨gb292,0,none⟩ = some (.int .i64 0):=(blk_cell BK292.out 0).trans rfl;have hcz31_1:w29.cell? ⟨gb292,1,none⟩ = some (.slice none 0 0):=(blk_cell BK292.out 1).trans rfl;have hcz31_2:w29.cell? ⟨gb292,2,none⟩ = some (.slice none 0 0):=(blk_cell BK292.out 2).trans rfl;have hcz31_3:w29.cell? ⟨gb292,3,none⟩ = some (.slice none 0 0):=(blk_cell BK292.out 3).trans rfl;have hfz31_0:=blk_frozen BK292.out 0;have hfz31_1:=blk_frozen BK292.out 1;have hfz31_2:=blk_frozen BK292.out 2;have hfz31_3:=blk_frozen BK292.out 3))
           have n0_:Aside0 (((((w29.setCell ⟨gb292,0,none⟩ (.int .i64 ((rd_T81 l1 x18_2).f0))).setCell ⟨gb292,1,none⟩ (.slice A291_1 ((rd_T81 l1 x18_2).f1).length c291_1)).setCell ⟨gb292,2,none⟩ (.slice A291_2 ((rd_T81 l1 x18_2).f2).length c291_2)).setCell ⟨gb292,3,none⟩ (.slice A291_3 ((rd_T81 l1 x18_2).f3).length c291_3)).heap[gb288]? = some (.cells #[.slice A0_0 l0_0.length c0_0] 30 (0,0))):=⟨by (with_reducible repeat (first|refine blk_drewN ?_ _|refine blk_drew ?_|refine blk_alloc ?_ _));refine blk_far ?_ NB288_292.out _;(with_reducible repeat (first|refine blk_drewN ?_ _|refine blk_drew ?_|refine blk_alloc ?_ _));refine blk_far ?_ NB288_292.out _;(with_reducible repeat (first|refine blk_drewN ?_ _|refine blk_drew ?_|refine blk_alloc ?_ _));refine blk_far ?_ NB288_292.out _;(with_reducible repeat (first|refine blk_drewN ?_ _|refine blk_drew ?_|refine blk_alloc ?_ _));refine blk_far ?_ NB288_292.out _;(with_reducible repeat (first|refine blk_drewN ?_ _|refine blk_drew ?_|refine blk_alloc ?_ _));exact BK288.out⟩
           have n1_:Aside0 (((((w29.setCell ⟨gb292,0,none⟩ (.int .i64 ((rd_T81 l1 x18_2).f0))).setCell ⟨gb292,1,none⟩ (.slice A291_1 ((rd_T81 l1 x18_2).f1).length c291_1)).setCell ⟨gb292,2,none⟩ (.slice A291_2 ((rd_T81 l1 x18_2).f2).length c291_2)).setCell ⟨gb292,3,none⟩ (.slice A291_3 ((rd_T81 l1 x18_2).f3).length c291_3)).heap[gb292]? = some (.cells #[.int .i64 ((rd_T81 l1 x18_2).f0),.slice A291_1 ((rd_T81 l1 x18_2).f1).length c291_1,.slice A291_2 ((rd_T81 l1 x18_2).f2).length c291_2,.slice A291_3 ((rd_T81 l1 x18_2).f3).length c291_3] 81 (0,0))):=⟨by (with_reducible repeat (first|refine blk_drewN ?_ _|refine blk_drew ?_|refine blk_alloc ?_ _));refine blk_put (cs:=#[.int .i64 ((rd_T81 l1 x18_2).f0),.slice A291_1 ((rd_T81 l1 x18_2).f1).length c291_1,.slice A291_2 ((rd_T81 l1 x18_2).f2).length c291_2,.slice none 0 0]) ?_ 3 _ rfl;(with_reducible repeat (first|refine blk_drewN ?_ _|refine blk_drew ?_|refine blk_alloc ?_ _));refine blk_put (cs:=#[.int .i64 ((rd_T81 l1 x18_2).f0),.slice A291_1 ((rd_T81 l1 x18_2).f1).length c291_1,.slice none 0 0,.slice none 0 0]) ?_ 2 _ rfl;(with_reducible repeat (first|refine blk_drewN ?_ _|refine blk_drew ?_|refine blk_alloc ?_ _));refine blk_put (cs:=#[.int .i64 ((rd_T81 l1 x18_2).f0),.slice none 0 0,.slice none 0 0,.slice none 0 0]) ?_ 1 _ rfl;(with_reducible repeat (first|refine blk_drewN ?_ _|refine blk_drew ?_|refine blk_alloc ?_ _));refine blk_put (cs:=#[.int .i64 0,.slice none 0 0,.slice none 0 0,.slice none 0 0]) ?_ 0 _ rfl;(with_reducible repeat (first|refine blk_drewN ?_ _|refine blk_drew ?_|refine blk_alloc ?_ _));exact BK292.out⟩
           have n2_:Aside0 (Below w.heap.size w ((((w29.setCell ⟨gb292,0,none⟩ (.int .i64 ((rd_T81 l1 x18_2).f0))).setCell ⟨gb292,1,none⟩ (.slice A291_1 ((rd_T81 l1 x18_2).f1).length c291_1)).setCell ⟨gb292,2,none⟩ (.slice A291_2 ((rd_T81 l1 x18_2).f2).length c291_2)).setCell ⟨gb292,3,none⟩ (.slice A291_3 ((rd_T81 l1 x18_2).f3).length c291_3))):=⟨by repeat (first|(with_reducible first|exact HB.out|apply below_alloc|apply pw_below_drewN|apply below_drew1|refine below_set ?_ GE288.out|refine below_set ?_ GE292.out)|exact HB.out)⟩
           (try clear BK288)
           (try clear BK292)
           (try clear HB)
           generalize ((((w29.setCell ⟨gb292,0,none⟩ (.int .i64 ((rd_T81 l1 x18_2).f0))).setCell ⟨gb292,1,none⟩ (.slice A291_1 ((rd_T81 l1 x18_2).f1).length c291_1)).setCell ⟨gb292,2,none⟩ (.slice A291_2 ((rd_T81 l1 x18_2).f2).length c291_2)).setCell ⟨gb292,3,none⟩ (.slice A291_3 ((rd_T81 l1 x18_2).f3).length c291_3)) = w32 at n0_ n1_ n2_ ⊢
           have BK288:=n0_
           have BK292:=n1_
           have HB:=n2_
           clear n0_ n1_ n2_
           have n0_:=Aside0.mk (blk_drew BK288.out)
           have n1_:=Aside0.mk (blk_drew BK292.out)
           have n2_:=Aside0.mk (below_drew1 HB.out)
           clear BK288
           clear BK292
           clear HB
           have BK288:=n0_
           have BK292:=n1_
           have HB:=n2_
           clear n0_ n1_ n2_
           have q34:(x18_2:Int) ≤ ((l1.length:Int):Int):=of_decide_eq_true (by first|(with_reducible assumption)|assumption)
           obtain ⟨i034,hi034,_,hsz34,_⟩:=info_parts info81
           have hroom34:l1.length ≤ c1:=HC1.out
           have hC34:Kd.C k81 _ (some ad291) l1.length l1:=HR1.out
           have hcut34:=cut_to (P:=Try.prog) 53 81 .i64 Try.underlying53 hi034 (some ad291) l1.length c1 x18_2 (of_decide_eq_true (by first|(with_reducible assumption)|assumption)) q34 hroom34
           have hr34:=Kd.C_take (m:=(x18_2:Int).toNat) hC34 (by omega)
           have hy34:y293.length = (x18_2:Int).toNat:=(by rw [Ny293.out,List.length_take];omega)
           rw [← Ny293.out] at hr34
           rw [← hy34] at hcut34
           have HR296:=Aside0.mk hr34
           have HC296:=Aside0.mk (show y293.length ≤ c1 from by omega)
           clear hr34 hC34 hroom34 hi034 hsz34
           have KY34:=Aside0.mk hy34
           clear hy34
           replace q34:=eq_true q34
           refine start_ (n:=7) (S:=fun w'=>w'.cell? ⟨gb292,0,none⟩ = some (.int .i64 ((rd_T81 l1 x18_2).f0)) ∧ w'.cell? ⟨gb292,1,none⟩ = some (.slice A291_1 ((rd_T81 l1 x18_2).f1).length c291_1) ∧ w'.cell? ⟨gb292,2,none⟩ = some (.slice A291_2 ((rd_T81 l1 x18_2).f2).length c291_2) ∧ w'.cell? ⟨gb292,3,none⟩ = some (.slice A291_3 ((rd_T81 l1 x18_2).f3).length c291_3)) (ds:=[]) #[false,false,false,false,false,false,false] (by kernel_rfl) rfl rfl ⟨(blk_cell BK292.out 0).trans rfl,(blk_cell BK292.out 1).trans rfl,(blk_cell BK292.out 2).trans rfl,(blk_cell BK292.out 3).trans rfl⟩ (fun hHeld=>?_)
           generalize w32.drew = w33 at BK288 BK292 HB HR296 hHeld ⊢
           refine pure_ (i:=0) (N:=some 23) (v:=?_) (a':=?_) #[true,false,false,false,false,false,false] rfl rfl (by kernel_rfl) (fun _ _ _ h=>h) (Or.inl ⟨by rfl,?_⟩) ?_ ?_
           rotate_left
           ·intro w'
            go_simp
            with_reducible rfl
           rotate_left
           ·simp only [Act.put,List.setIfInBounds_toArray,List.set_cons_zero,List.set_cons_succ,i64_w,i32_w]
            rfl
           refine pure_ (i:=1) (N:=some 24) (v:=?_) (a':=?_) #[true,true,false,false,false,false,false] rfl rfl (by kernel_rfl) (fun _ _ _ h=>h) (Or.inl ⟨by rfl,?_⟩) ?_ ?_
           rotate_left
           ·intro w'
            go_simp
            with_reducible rfl
           rotate_left
           ·simp only [Act.put,List.setIfInBounds_toArray,List.set_cons_zero,List.set_cons_succ,i64_w,i32_w]
            rfl
           refine pure_ (i:=2) (N:=some 25) (v:=?_) (a':=?_) #[true,true,true,false,false,false,false] rfl rfl (by kernel_rfl) (fun _ _ _ h=>h) (Or.inl ⟨by rfl,?_⟩) ?_ ?_
           rotate_left
           ·intro w'
            go_simp
            with_reducible rfl
           rotate_left
           ·simp only [Act.put,List.setIfInBounds_toArray,List.set_cons_zero,List.set_cons_succ,i64_w,i32_w]
            rfl
           refine pure_ (i:=3) (N:=some 26) (v:=?_) (a':=?_) #[true,true,true,true,false,false,false] rfl rfl (by kernel_rfl) (fun _ _ _ h=>h) (Or.inl ⟨by rfl,?_⟩) ?_ ?_
           rotate_left
           ·intro w'
            go_simp
            with_reducible rfl
           rotate_left
           ·simp only [Act.put,List.setIfInBounds_toArray,List.set_cons_zero,List.set_cons_succ,i64_w,i32_w]
            rfl
           refine take_ (i:=4) (N:=some 27) (v:=?_) (a':=?_) #[true,true,true,true,true,false,false] rfl rfl (by kernel_rfl) (fun _ _ _ h=>h) (Or.inl ⟨by rfl,?_⟩) hHeld ?_ ?_
           rotate_left
           ·rintro w' ⟨s0,s1,s2,s3⟩
            go_simp
            with_reducible rfl
           rotate_left
           ·simp only [Act.put,List.setIfInBounds_toArray,List.set_cons_zero,List.set_cons_succ,i64_w,i32_w]
            rfl
           refine one_ (i:=5) (N:=some 28) #[true,true,true,true,true,true,false] rfl rfl (by kernel_rfl) (by decide) (fun K hK=>?_)
           refine goes_ Try.func91 (by kernel_rfl) rfl #[.slice (some ad291) y293.length c1,.slice A291_1 ((rd_T81 l1 x18_2).f1).length c291_1] (by rfl) rfl rfl (by (try simp only [List.map_toArray,List.map_cons,List.map_nil]);first|done|rfl|(simp only [List.length_drop,List.length_take];rfl)) ?_
           with_reducible refine (impl_areOf.calls _ _ y293 _ _ ((rd_T81 l1 x18_2).f1) false _ ?side1 ?side2 ?side3 ?side4 A20.out).mono ?_
           (case side1=>repeat (first|exact (Kd.C_below HR296.out HB.out)|(with_reducible refine Kd.C_alloc ?_ _)|(with_reducible refine Kd.C_drewN ?_ _)|(with_reducible refine Kd.C_drew ?_)))
           (case side2=>exact HC296.out)
           (case side3=>repeat (first|exact (Kd.C_below HR291_1.out HB.out)|(with_reducible refine Kd.C_alloc ?_ _)|(with_reducible refine Kd.C_drewN ?_ _)|(with_reducible refine Kd.C_drew ?_)))
           (case side4=>exact HC291_1.out)
           rintro e w35 ⟨rfl,hb⟩
           refine ⟨_,rfl,?_⟩
           have n0_:=Aside0.mk (blk_below (g:=gb288) (o:=.cells #[.slice A0_0 l0_0.length c0_0] 30 (0,0)) (by (with_reducible repeat (first|refine blk_drewN ?_ _|refine blk_drew ?_|refine blk_alloc ?_ _));exact BK288.out) hb)
           have n1_:=Aside0.mk (blk_below (g:=gb292) (o:=.cells #[.int .i64 ((rd_T81 l1 x18_2).f0),.slice A291_1 ((rd_T81 l1 x18_2).f1).length c291_1,.slice A291_2 ((rd_T81 l1 x18_2).f2).length c291_2,.slice A291_3 ((rd_T81 l1 x18_2).f3).length c291_3] 81 (0,0)) (by (with_reducible repeat (first|refine blk_drewN ?_ _|refine blk_drew ?_|refine blk_alloc ?_ _));exact BK292.out) hb)
           have n2_:=Aside0.mk (below_step (by repeat (first|(with_reducible first|exact HB.out|apply below_alloc|apply pw_below_drewN|apply below_drew1|refine below_set ?_ GE288.out|refine below_set ?_ GE292.out)|exact HB.out)) hb)
           clear BK288
           clear BK292
           clear HB
           have BK288:=n0_
           have BK292:=n1_
           have HB:=n2_
           clear n0_ n1_ n2_
           (try clear hb)
           (try clear hb2)
           (try clear hk)
           (try clear hi)
           refine hK.out _ _ ⟨(blk_cell BK292.out 0).trans rfl,(blk_cell BK292.out 1).trans rfl,(blk_cell BK292.out 2).trans rfl,(blk_cell BK292.out 3).trans rfl⟩ (fun hHeld=>?_)
           clear hK K
           refine norm_ (a':=?_) ?_ ?_
           rotate_left
           ·show Act.put _ (some 28) _ = _
            simp only [Act.put,List.setIfInBounds_toArray,List.set_cons_zero,List.set_cons_succ,i64_w,i32_w]
            rfl
           refine pure_ (i:=6) (N:=some 29) (v:=?_) (a':=?_) #[true,true,true,true,true,true,true] rfl rfl (by kernel_rfl) (fun _ _ _ h=>h) (Or.inl ⟨by rfl,?_⟩) ?_ ?_
           rotate_left
           ·intro w'
            go_simp
            with_reducible rfl
           rotate_left
           ·simp only [Act.put,List.setIfInBounds_toArray,List.set_cons_zero,List.set_cons_succ,i64_w,i32_w]
            rfl
           refine done_ (by kernel_rfl) ?_
           try go_wp2
           go_ret
           exact ⟨by first|rfl|(simp [errW_none,errW_some] <;> rfl)|(simp [*,errW_none,errW_some] <;> rfl),by repeat (first|(with_reducible first|exact HB.out|apply below_alloc|apply pw_below_drewN|apply below_drew1|refine below_set ?_ GE288.out|refine below_set ?_ GE292.out)|exact HB.out)⟩
         ·rw [if_neg c19] at H
          exact absurd H (by simp)
        ·rw [if_neg c17] at H
         exact absurd H (by simp)
       ·rw [if_neg c16] at H
        exact absurd H (by simp)
      ·rw [if_neg c15] at H
       have c15b0:decide (x18_2 < (l1.length:Int)) = false:=decide_eq_false c15
       clear c15
       obtain rfl:=Option.some.inj H
       go_wp2
       go_ret
       exact ⟨by first|rfl|(simp [errW_none,errW_some] <;> rfl)|(simp [*,errW_none,errW_some] <;> rfl),by repeat (first|(with_reducible first|exact HB.out|apply below_alloc|apply pw_below_drewN|apply below_drew1|refine below_set ?_ GE288.out)|exact HB.out)⟩

/-! ### impl_inputsOf: function 59, by a walk of this session's own -/
/-! ### slices.Sort over a row of whole numbers of the call's own, by the kit's contract -/
open Go.Shelf in
shelf_lay Lays.n189 Nm 189 at Try as Try.laysSort
theorem Try.fSort:Try.laysSort_ren.f 189 = 92:=by kernel_rfl
theorem Try.fBits:Try.laysSort_ren.f 125 = 125:=by kernel_rfl
theorem Try.bitsLen (x:Int) (w:World) (h0:0 ≤ x) (h1:x ≤ 18446744073709551615):Calls Try.prog 125 #[.int .u64 x] w fun e w'=>e = .returned (.int .i64 (Lib.bitLen x.toNat)) ∧ w' = w:=by
  have h:=calls_of_every_depth fun D=>AnyS.bits_LenIn (ρ:=Try.laysSort_ren) { Try.laysSort with } D x w h0 h1
  rw [Try.fBits] at h
  exact h
theorem Try.ins0 (A:Option Addr) (c:Nat) (w:World):Calls Try.prog 144 #[.slice A 0 c,.int .i64 0,.int .i64 0] w fun e w'=>e = .returned (.tuple #[]) ∧ Aside0 (Below w.heap.size w w'):=by
  have HB:=Aside0.mk (Below.refl w.heap.size w)
  go_enter Try.func144,Try.ntmps144
  obtain ⟨W0,hW0⟩:∃ W,W = w:=⟨_,rfl⟩
  rw [← hW0] at HB ⊢
  go_wp2
  go_loopw [6] (fun v6 wr=>v6 = .int .i64 1 ∧ Hid (Below w.heap.size w wr)) (fun _ _=>0)
  case atStart=>exact ⟨rfl,hW0 ▸ HB.out⟩
  case round =>
    clear HB
    obtain ⟨rfl,hB⟩:=hrel
    unfold Hid at hB
    have HB:=Aside0.mk hB
    clear hB
    go_wp2
    go_end0
    exact ⟨rfl,hW0 ▸ HB⟩
theorem Try.pdq0 (A:Option Addr) (c:Nat) (n:Int) (w:World):Calls Try.prog 124 #[.slice A 0 c,.int .i64 0,.int .i64 0,.int .i64 n] w fun e w'=>e = .returned (.tuple #[]) ∧ Aside0 (Below w.heap.size w w'):=by
  obtain ⟨W0,hW0⟩:∃ W,W = w:=⟨_,rfl⟩
  have HB:=Aside0.mk (hW0 ▸ Below.refl w.heap.size w:Below w.heap.size w W0)
  go_enter Try.func124,Try.ntmps124
  rw [← hW0] at HB ⊢
  go_wp2
  go_loopw [1,2] (fun v1 v2 wr=>v1 = .int .i64 0 ∧ v2 = .int .i64 0 ∧ Hid (Below W0.heap.size W0 wr)) (fun _ _ _=>0)
  case atStart=>exact ⟨rfl,rfl,HB.out⟩
  case round =>
    clear HB
    obtain ⟨rfl,rfl,hB⟩:=hrel
    unfold Hid at hB
    have HB:=Aside0.mk hB
    clear hB
    go_wp2_with (go_at_call 144;refine (Try.ins0 A c _).mono ?_)
    first|rintro e W1 rfl hd|rintro e W1 ⟨rfl,hd⟩
    have HB:=Aside0.mk (below_step HB.out hd.out)
    clear hd
    go_wp2
    ((try simp only [Exit.inBlock,Exit.then]);refine bodyPost_ret (results_none rfl _ _ _) rfl ?_)
    exact ⟨rfl,HB⟩
theorem Try.sort0 (A:Option Addr) (c:Nat) (w:World):Calls Try.prog 92 #[.slice A 0 c] w fun e w'=>e = .returned (.tuple #[]) ∧ Aside0 (Below w.heap.size w w'):=by
  obtain ⟨W0,hW0⟩:∃ W,W = w:=⟨_,rfl⟩
  rw [← hW0]
  go_enter Try.func92,Try.ntmps92
  go_wp2_with (go_at_call 125;refine (Try.bitsLen 0 _ (by omega) (by omega)).mono ?_)
  rintro e W1 ⟨rfl,hq⟩
  go_wp2_with (go_at_call 124;refine (Try.pdq0 A c _ _).mono ?_)
  first|rintro e W2 rfl hd|rintro e W2 ⟨rfl,hd⟩
  go_wp2
  go_end0
  rw [hW0]
  exact ⟨rfl,hd⟩
theorem below_sorted {B:Nat} {W w:World} (hB:Below B W w) {g n:Nat} {os:Array Obj} (d:Array Int) (hg:B ≤ g) (hs:B ≤ w.heap.size):Below B W (Go.Sort.grow (Go.Sort.putRow (Value.int .i64) (Go.Sort.ahead w n) g 0 d) os):=by
  have h:=grownBy_sortedI (w:=w) (g:=g) (n:=n) (os:=os) d
  exact hB.trans ⟨h.os,h.tape,h.output,h.size,fun k hk=>h.block k (by omega) (by intro e;cases e;omega)⟩
theorem Try.sort_walk (v:Value) (xs:List Int) (ok:Nat → Prop) (w0 w:World) (hB:Below w0.heap.size w0 w) (h:(Kd.int .i64).R 3 w w0.heap.size ok v xs) (hn:xs.length < 4611686018427387904) :
    Calls Try.prog 92 #[v] w fun x w'=>x = .returned (.tuple #[]) ∧ Aside0 ((Kd.int .i64).R 3 w' w0.heap.size ok v (xs.mergeSort fun a b=>decide (a ≤ b)) ∧ Below w0.heap.size w0 w'):=by
  rcases Nat.eq_zero_or_pos xs.length with h0|h0
  · obtain rfl:=List.eq_nil_of_length_eq_zero h0
    obtain ⟨A,c,rfl⟩:=Kd.R_slice h
    refine (Try.sort0 A c w).mono ?_
    rintro e w' ⟨rfl,hd⟩
    exact ⟨rfl,⟨by rw [List.mergeSort_nil];exact Kd.R_below h hd.out,below_step hB hd.out⟩⟩
  · have hok:=h.1
    have ho:=Kd.own_of_R (enc:=Value.int .i64) (h1:=fun _=>rfl) h
    rcases ho with ⟨hl,⟨hv,hn0⟩|⟨g,cap,cur,rfl,hbase,hb,h1,h2,h3,h4⟩⟩
    · omega
    have hb1:Go.Sort.Holds (Value.int .i64) w g 0 xs.toArray:=holds_of_blockI hb (by simpa [encs] using h4)
    have hblk:g < w.heap.size:=(Array.getElem?_eq_some_iff.1 hb).1
    have hcall:=Any.slices_Sort_int Try.laysSort g 0 cap xs w hb1 hblk hn
    rw [Try.fSort] at hcall
    refine hcall.mono ?_
    rintro e w' ⟨rfl,n,os,rfl⟩
    refine ⟨rfl,⟨?_,below_sorted hB _ hbase hB.size⟩⟩
    have hlen:(xs.mergeSort fun a b=>decide (a ≤ b)).length = xs.length:=List.length_mergeSort _
    have hown:=ownsRow_sortedI (n:=n) (os:=os) (ss:=xs) (ts:=xs.mergeSort fun a b=>decide (a ≤ b)) hlen hbase hb h1 h2 h3
    rw [← hlen] at hown ⊢
    exact Kd.R_of_own (enc:=Value.int .i64) (h1:=fun _=>rfl) hown hok
/-! ### slices.Compact over a row of whole numbers of the call's own, by the kit's contract -/
open Go.Shelf in
shelf_lay Lays2.n20 Nm2 20 at Try as Try.laysCompact
theorem Try.fCompact:Try.laysCompact_ren.f 20 = 93:=by kernel_rfl
theorem Try.compact_walk (v:Value) (xs:List Int) (ok:Nat → Prop) (w0 w:World) (hB:Below w0.heap.size w0 w) (h:(Kd.int .i64).R 3 w w0.heap.size ok v xs) (hn:xs.length < 4611686018427387904) :
    Calls Try.prog 93 #[v] w fun x w'=>∃ v',x = .returned v' ∧ Aside0 ((Kd.int .i64).R 3 w' w0.heap.size ok v' (Lib.compact xs) ∧ Below w0.heap.size w0 w'):=by
  rcases Nat.eq_zero_or_pos xs.length with h0|h0
  · obtain rfl:=List.eq_nil_of_length_eq_zero h0
    obtain ⟨A,c,rfl⟩:=Kd.R_slice h
    have hcall:=Any.slices_Compact_int_empty Try.laysCompact A c w
    rw [Try.fCompact] at hcall
    refine hcall.mono ?_
    rintro e w' ⟨rfl,rfl⟩
    exact ⟨_,rfl,⟨h,hB⟩⟩
  · have hok:=h.1
    have ho:=Kd.own_of_R (enc:=Value.int .i64) (h1:=fun _=>rfl) h
    rcases ho with ⟨hl,⟨hv,hn0⟩|⟨g,cap,cur,rfl,hbase,hb,h1,h2,h3,h4⟩⟩
    · omega
    have hb1:Go.Sort.Holds (Value.int .i64) w g 0 xs.toArray:=holds_of_blockI hb (by simpa [encs] using h4)
    have hcall:=Any.slices_Compact_int Try.laysCompact g 0 cap xs w hb1 (by omega) h1
    rw [Try.fCompact] at hcall
    refine hcall.mono ?_
    rintro e w' ⟨rfl,n,rfl⟩
    have hcl:(Lib.compact xs).length ≤ xs.length:=Lib.compact_length_le xs
    have bs:=below_sorted (n:=n) (os:=#[]) hB (Lib.compact xs ++ List.replicate (xs.length - (Lib.compact xs).length) 0).toArray hbase hB.size
    rw [Go.Sort.grow_empty] at bs
    refine ⟨_,rfl,⟨?_,bs⟩⟩
    have hlen:(Lib.compact xs ++ List.replicate (xs.length - (Lib.compact xs).length) 0).length = xs.length:=by simp;omega
    have hown:=ownsRow_sortedI (n:=n) (os:=#[]) (ss:=xs) (ts:=Lib.compact xs ++ List.replicate (xs.length - (Lib.compact xs).length) 0) hlen hbase hb h1 h2 h3
    rw [Go.Sort.grow_empty] at hown
    rcases hown with ⟨hl',⟨hv,hn0⟩|⟨g',cap',cur',hv',hbase',hb',h1',h2',h3',h4'⟩⟩
    · omega
    simp only [Value.slice.injEq,Option.some.injEq,Addr.mk.injEq,and_true] at hv'
    obtain ⟨rfl,rfl⟩:g = g' ∧ cap = cap':=by
      obtain ⟨e1,e2⟩:=hv'
      exact ⟨by first|exact e1|exact e1.1,by first|exact e2|exact e2.2⟩
    refine Kd.R_of_own (enc:=Value.int .i64) (h1:=fun _=>rfl) ⟨by simp [encs],.inr ⟨g,cap,cur',rfl,hbase,hb',by omega,h2,h3',?_⟩⟩ hok
    have h5:=congrArg (List.take (Lib.compact xs).length) h4'
    rw [List.take_take,Nat.mul_one,Nat.min_eq_left hcl] at h5
    rw [Nat.mul_one,h5,List.map_append,List.take_left' (by simp)]
    rfl
def impl_inputsOf.got:List S81 → List Int
  | []=>[]
  | x :: t=>(if x.f0 = 1 ∧ x.f2.length = 1 then [rd x.f2 0] else []) ++ impl_inputsOf.got t
def impl_inputsOf.f (l0:List S81):Option (List Int):=if l0.length ≤ 2097152 then some (Lib.compact ((impl_inputsOf.got l0).mergeSort fun a b=>decide (a ≤ b))) else none
theorem impl_inputsOf.got_len (l:List S81):(impl_inputsOf.got l).length ≤ l.length:=by
  induction l with
  | nil=>simp [impl_inputsOf.got]
  | cons x t ih =>
    simp only [impl_inputsOf.got,List.length_append,List.length_cons]
    split <;> simp <;> omega
theorem inputs_elem {w:World} {A:Option Addr} {l:List Int} (h:Kd.C (Kd.int .i64) w A l.length l) (hj:0 < l.length):∃ ad,A = some ad ∧ w.cell? ad = some (.int .i64 (rd l 0)):=by
  have h:ReadsOf (Value.int .i64) (0:Int) w A l.length l:=Kd.reads_of_C h
  obtain ⟨ad,e,hc⟩:=h.2.2 hj
  have h1:=hc 0 hj
  rw [show ad.add 0 = ad from by cases ad;rfl] at h1
  exact ⟨ad,e,h1⟩
set_option maxHeartbeats 16000000 in
set_option maxRecDepth 1000000 in
theorem impl_inputsOf.calls (A0:Option Addr) (c0:Nat) (l0:List S81) (r:List Int) (w:World) (hr0:Kd.C k81 w A0 l0.length l0) (hc0:l0.length ≤ c0) (h:impl_inputsOf.f l0 = some r) :
    Calls Try.prog 59 #[.slice A0 l0.length c0] w fun e w'=>∃ v0_:Value,e = .returned v0_ ∧ Kd.R (Kd.int .i64) 3 w' w.heap.size (fun _=>True) v0_ r ∧ Below w.heap.size w w':=by
  unfold impl_inputsOf.f at h
  split at h
  rotate_left
  · cases h
  rename_i hln
  obtain rfl:=Option.some.inj h
  clear h
  have H0:=Aside0.mk hr0
  clear hr0
  have HB:=Aside0.mk (Below.refl w.heap.size w)
  go_enter Try.func59,Try.ntmps59
  go_wp2
  go_loopw [3,8] (fun v3 v8 wr=>∃ (i:Nat) (acc:List Int),i ≤ l0.length ∧ v8 = .int .i64 i ∧ Hid (acc ++ impl_inputsOf.got (l0.drop i) = impl_inputsOf.got l0) ∧ Hid (acc.length ≤ i) ∧ Hid (Kd.R (Kd.int .i64) 3 wr w.heap.size (fun _=>True) v3 acc) ∧ Hid (Below w.heap.size w wr)) (fun _ v8 _=>l0.length - (intOf v8).toNat)
  case atStart=>exact ⟨0,[],Nat.zero_le _,rfl,by simp [Hid],by simp [Hid],Kd.R_nil _ _ _ _ _,HB.out⟩
  case round =>
    clear HB
    obtain ⟨i,acc,hi,rfl,hg,ha,hR,hB⟩:=hrel
    unfold Hid at hg ha hR hB
    by_cases hp:i < l0.length
    · rw [List.drop_eq_getElem_cons hp] at hg
      obtain ⟨ad,B1,d1,B2,d2,B3,d3,ead,k0,k1,k2,k3,l1_,i1,l2_,i2,l3_,i3⟩:=at_T81 (Kd.C_below H0.out hB) (i:Int) (by omega) (by omega)
      have hrd:rd_T81 l0 (i:Int) = l0[i]:=by unfold rd_T81;simp [List.getD_eq_getElem?_getD,hp]
      rw [hrd] at k0 k1 k2 k3 l1_ i1 l2_ i2 l3_ i3
      rw [Int.toNat_natCast] at k0 k1 k2 k3
      subst ead
      generalize l0[i] = x at hg k0 k1 k2 k3 l1_ i1 l2_ i2 l3_ i3 hrd
      clear hrd
      have HG:=Aside0.mk hg
      have HA:=Aside0.mk ha
      have HR:=Aside0.mk hR
      have HB:=Aside0.mk hB
      have I2:=Aside0.mk i2
      clear hg ha hR hB i1 i2 i3
      go_upto_region 5 with fail
      have hal:Below wr.heap.size wr (wr.alloc (.cells #[.int .i64 x.f0,.slice B1 x.f1.length d1,.slice B2 x.f2.length d2,.slice B3 x.f3.length d3] 81)):=Below.alloc (Below.refl _ _) (Nat.le_refl _) _
      have HU:=Aside0.mk (heap_alloc_new wr (.cells #[.int .i64 x.f0,.slice B1 x.f1.length d1,.slice B2 x.f2.length d2,.slice B3 x.f3.length d3] 81))
      have HR:=Aside0.mk (Kd.R_below HR.out hal)
      have J2:=Aside0.mk (Kd.C_below I2.out hal)
      have HB:=Aside0.mk (below_step HB.out hal)
      clear hal k0 k1 k2 k3 I2
      generalize wr.alloc (.cells #[.int .i64 x.f0,.slice B1 x.f1.length d1,.slice B2 x.f2.length d2,.slice B3 x.f3.length d3] 81) = W2 at HU HR J2 HB ⊢
      generalize wr.heap.size = gu at HU ⊢
      have q0:W2.cell? ⟨gu,0,none⟩ = some (.int .i64 x.f0):=(blk_cell HU.out 0).trans rfl
      have q2:W2.cell? ⟨gu,2,none⟩ = some (.slice B2 x.f2.length d2):=(blk_cell HU.out 2).trans rfl
      obtain ⟨Aa,ca,rfl⟩:=Kd.R_slice HR.out
      have hgo:=HG.out
      simp only [impl_inputsOf.got] at hgo
      have hacc:=HA.out
      by_cases g0:x.f0 = 1
      · have g0a:(x.f0 == 1) = true:=beq_iff_eq.mpr g0
        have g0b:(x.f0 != 1) = false:=bne_eq_false_iff_eq.mpr g0
        by_cases g1:x.f2.length = 1
        · have g1a:((x.f2.length:Int) == 1) = true:=beq_iff_eq.mpr (by omega)
          rw [if_pos ⟨g0,g1⟩] at hgo
          obtain ⟨av,eav,hvc⟩:=inputs_elem J2.out (by omega)
          subst eav
          have HG:=Aside0.mk hgo
          have g1p:decide (0 < x.f2.length) = true:=decide_eq_true (by omega)
          have hle:acc.length ≤ 2097152:=by omega
          clear hgo g0 HA
          generalize rd x.f2 0 = z at HG hvc
          go_wp2_with ((with_reducible refine gate_builtin (b:=.append) (xs:=#[.tmp 21,.tmp 26]) rfl ?_);at_builtin;refine Kd.R_append (Kd.int .i64) (w0:=w) w.heap.size rfl (.tmp 21) (.tmp 26) 22 3 (.int .i64 0) 8 rfl Try.underlying22 info3 rfl (by decide) (by first|decide|omega) (.slice Aa acc.length ca) acc z [.int .i64 z] (fun _=>True) (fun _=>False) rfl rfl ?aP (fun _ hk=>hk.elim) ?aF ?aO ?aB ?aS ?aL ?_;(case aP=>exact rfl);(case aB=>exact (by repeat (first|(with_reducible first|exact HB.out|apply below_alloc|apply pw_below_drewN|apply below_drew1)|exact HB.out)));(case aF=>exact (fun _ _=>trivial));(case aO=>exact (by (with_reducible repeat (first|apply Kd.R_alloc|apply Kd.R_drewN|apply Kd.R_drew));exact HR.out));(case aS=>exact (below_size (by repeat (first|(with_reducible first|exact HB.out|apply below_alloc|apply pw_below_drewN|apply below_drew1)|exact HB.out))));(case aL=>omega);intro v1 w13 ho hb hg hat;have n0_:=Aside0.mk hb;have n1_:=Aside0.mk ho;clear HB HR;clear ho hb hg hat)
          go_wp2
          go_roundw
          case rel=>exact ⟨i + 1,acc ++ [z],by omega,rfl,(by have:=HG.out;unfold Hid;rw [List.append_assoc];exact this),(by unfold Hid;rw [List.length_append,List.length_singleton];omega),n1_.out,n0_.out⟩
          case measure=>simp [intOf];omega
        · have g1a:((x.f2.length:Int) == 1) = false:=beq_eq_false_iff_ne.mpr (by omega)
          rw [if_neg (fun q=>g1 q.2),List.nil_append] at hgo
          have HG:=Aside0.mk hgo
          clear hgo g0
          go_wp2
          go_roundw
          case rel=>exact ⟨i + 1,acc,by omega,rfl,HG.out,Nat.le_succ_of_le hacc,HR.out,HB.out⟩
          case measure=>simp [intOf];omega
      · have g0a:(x.f0 == 1) = false:=beq_eq_false_iff_ne.mpr g0
        rw [if_neg (fun q=>g0 q.1),List.nil_append] at hgo
        have HG:=Aside0.mk hgo
        clear hgo
        go_wp2
        go_roundw
        case rel=>exact ⟨i + 1,acc,by omega,rfl,HG.out,Nat.le_succ_of_le hacc,HR.out,HB.out⟩
        case measure=>simp [intOf];omega
    · obtain rfl:i = l0.length:=by omega
      rw [List.drop_length] at hg
      simp only [impl_inputsOf.got,List.append_nil] at hg
      subst hg
      have hn:=impl_inputsOf.got_len l0
      have hcall:=Try.sort_walk _ _ _ w wr hB hR (by omega)
      clear hR hB ha
      go_wp2_with (go_at_call 92;refine hcall.mono ?_)
      first|rintro e W1 rfl hd|rintro e W1 ⟨rfl,hd⟩
      obtain ⟨hR,hB⟩:=hd.out
      have hl2:((impl_inputsOf.got l0).mergeSort fun a b=>decide (a ≤ b)).length = (impl_inputsOf.got l0).length:=List.length_mergeSort _
      have hcall:=Try.compact_walk _ _ _ w W1 hB hR (by omega)
      clear hR hB hd
      go_wp2_with (go_at_call 93;refine hcall.mono ?_)
      first|rintro e W2 v rfl hd|rintro e W2 ⟨v,rfl,hd⟩
      go_wp2
      go_ret
      exact ⟨_,rfl,hd.out.1,hd.out.2⟩

end Go.Proofs.Ytlgnanbnicmdaab.QFnExactInputsOf
