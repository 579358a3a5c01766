-- Written by this session's own program (wip/x/xprint.py, over the kit's printer); Lean checks it.
import Derived.Test.YtlgnanbnicmdaabQFnExactIsNormalx0
import Derived.Test.YtlgnanbnicmdaabQFnExactIsNormalx1
import Derived.Test.YtlgnanbnicmdaabQFnExactIsNormalx6
import Derived.Test.YtlgnanbnicmdaabQFnExactIsNormalx12
namespace Go.Proofs.Ytlgnanbnicmdaab.QFnExactIsNormal
open Go.RowKit Go.Proofs.YtlgnanbnicmdaabW.PrintWords Go.Proofs.YtlgnanbnicmdaabW.PrintLast Go.Proofs.YtlgnanbnicmdaabW.PrintMore
attribute [local go_sem] max2_int min2_int max_two min_two max_three min_three max_four min_four   -- for this text's walks alone
set_option linter.unusedVariables false
set_option linter.unusedSimpArgs false

/-! ### laws_FnExactIsNormal: function 3 -/
def laws_FnExactIsNormal.j0:Nat → List Int → List (S62) → List Int → List (S65) → Bool → List Int → List Int → Option (Bool)
 | 0,_,_,_,_,_,_,_=>none
 | k + 1,x1,x2,x11,x12,x58,x382000,x399000=>if x58 = true then (some false) else ((laws_toSign.f k x382000).bind fun t407=>((laws_eqSign.f k x399000 t407).bind fun t410=>(if t410 = true then ((laws_toIntS.f k x1).bind fun t411=>((laws_eqIntS.f k x11 t411).bind fun t414=>(if t414 = true then ((laws_toLitS.f k x2).bind fun t415=>((laws_eqLitS.f k x12 t415).bind fun t418=>(if t418 = true then (some true) else (some false)))) else (some false)))) else (some false))))
def laws_FnExactIsNormal.f (k:Nat) (l0_0:List Int) (l1:List Int) (l2:List (S62)):Option (Bool):=if (l1.length:Int) > 1048576 then (some true) else ((laws_szSign.f l0_0 1048576).bind fun t382=>(if t382 < 0 then (some true) else ((laws_szLitS.f k l2 t382).bind fun t383=>(if t383 < 0 then (some true) else ((laws_toSign.f k l0_0).bind fun t384=>((laws_toIntS.f k l1).bind fun t387=>((laws_toLitS.f k l2).bind fun t390=>((spec_IsNormal.f k t384 t387 t390).bind fun bt393=>((laws_toSign.f k l0_0).bind fun t395=>((laws_toIntS.f k l1).bind fun t399=>((laws_toLitS.f k l2).bind fun t402=>((impl_IsNormal.f k t395 t399 t402).bind fun bt405=>(if (bt405.1 != bt393.1) = true then (laws_FnExactIsNormal.j0 k l1 l2 t399 t402 true l0_0 t395) else (laws_FnExactIsNormal.j0 k l1 l2 t399 t402 (bt405.2 != bt393.2) l0_0 t395))))))))))))))
theorem laws_FnExactIsNormal.mono_l:∀ k,(∀ y0 y1 y2 y3 y4 y5 y6,LeO (laws_FnExactIsNormal.j0 k y0 y1 y2 y3 y4 y5 y6) (laws_FnExactIsNormal.j0 (k + 1) y0 y1 y2 y3 y4 y5 y6))
 | 0=>fun _ _ _ _ _ _ _ r h=>by simp [laws_FnExactIsNormal.j0] at h
 | k + 1=>by
  have ih0:=laws_FnExactIsNormal.mono_l k
  ·intro y0 y1 y2 y3 y4 y5 y6
   unfold laws_FnExactIsNormal.j0
   repeat' first
   | (with_reducible exact ih0 _ _ _ _ _ _ _)
   | (with_reducible exact impl_IsNormal.mono _ _ _ _)
   | (with_reducible exact laws_eqIntS.mono _ _ _)
   | (with_reducible exact laws_eqLitS.mono _ _ _)
   | (with_reducible exact laws_eqSign.mono _ _ _)
   | (with_reducible exact laws_szLitS.mono _ _ _)
   | (with_reducible exact laws_toIntS.mono _ _)
   | (with_reducible exact laws_toLitS.mono _ _)
   | (with_reducible exact laws_toSign.mono _ _)
   | (with_reducible exact spec_IsNormal.mono _ _ _ _)
   | (with_reducible exact LeO.refl _)
   | (with_reducible exact LeO.none _)
   | (with_reducible refine LeO.ite ?_ ?_)
   | (with_reducible refine LeO.bind ?_ (fun _=>?_))
   | exact ih0 _ _ _ _ _ _ _
   | exact impl_IsNormal.mono _ _ _ _
   | exact laws_eqIntS.mono _ _ _
   | exact laws_eqLitS.mono _ _ _
   | exact laws_eqSign.mono _ _ _
   | exact laws_szLitS.mono _ _ _
   | exact laws_toIntS.mono _ _
   | exact laws_toLitS.mono _ _
   | exact laws_toSign.mono _ _
   | exact spec_IsNormal.mono _ _ _ _
   | exact LeO.none _
   | refine LeO.ite ?_ ?_
   | refine LeO.bind ?_ (fun _=>?_)
theorem laws_FnExactIsNormal.mono:∀ a0 a1 a2 k,LeO (laws_FnExactIsNormal.f k a0 a1 a2) (laws_FnExactIsNormal.f (k + 1) a0 a1 a2):=by
 intro a0 a1 a2 k
 have ih0:=laws_FnExactIsNormal.mono_l k
 unfold laws_FnExactIsNormal.f
 repeat' first
   | (with_reducible exact ih0 _ _ _ _ _ _ _)
   | (with_reducible exact impl_IsNormal.mono _ _ _ _)
   | (with_reducible exact laws_eqIntS.mono _ _ _)
   | (with_reducible exact laws_eqLitS.mono _ _ _)
   | (with_reducible exact laws_eqSign.mono _ _ _)
   | (with_reducible exact laws_szLitS.mono _ _ _)
   | (with_reducible exact laws_toIntS.mono _ _)
   | (with_reducible exact laws_toLitS.mono _ _)
   | (with_reducible exact laws_toSign.mono _ _)
   | (with_reducible exact spec_IsNormal.mono _ _ _ _)
   | (with_reducible exact LeO.refl _)
   | (with_reducible exact LeO.none _)
   | (with_reducible refine LeO.ite ?_ ?_)
   | (with_reducible refine LeO.bind ?_ (fun _=>?_))
   | exact ih0 _ _ _ _ _ _ _
   | exact impl_IsNormal.mono _ _ _ _
   | exact laws_eqIntS.mono _ _ _
   | exact laws_eqLitS.mono _ _ _
   | exact laws_eqSign.mono _ _ _
   | exact laws_szLitS.mono _ _ _
   | exact laws_toIntS.mono _ _
   | exact laws_toLitS.mono _ _
   | exact laws_toSign.mono _ _
   | exact spec_IsNormal.mono _ _ _ _
   | exact LeO.none _
   | refine LeO.ite ?_ ?_
   | refine LeO.bind ?_ (fun _=>?_)
set_option maxHeartbeats 8000000 in
set_option maxRecDepth 100000 in
theorem laws_FnExactIsNormal.calls (k:Nat) (A0_0:Option Addr) (c0_0:Nat) (l0_0:List Int) (A1:Option Addr) (c1:Nat) (l1:List Int) (A2:Option Addr) (c2:Nat) (l2:List (S62)) (r:Bool) (w:World) (hr0_0:Kd.C (Kd.int .i64) w A0_0 l0_0.length l0_0) (hc0_0:l0_0.length ≤ c0_0) (hr1:Kd.C (Kd.int .i64) w A1 l1.length l1) (hc1:l1.length ≤ c1) (hr2:Kd.C k62 w A2 l2.length l2) (hc2:l2.length ≤ c2) (h:laws_FnExactIsNormal.f k l0_0 l1 l2 = some r) :
  Calls Try.prog 3 #[.agg #[.slice A0_0 l0_0.length c0_0],.slice A1 l1.length c1,.slice A2 l2.length c2] w fun e w'=>e = .returned (.bool r) ∧ Below w.heap.size w w':=by
 have hu24:=Try.underlying24
 have hu30:=Try.underlying30
 have HR0_0:=Aside0.mk hr0_0
 have HC0_0:=Aside0.mk hc0_0
 clear hr0_0 hc0_0
 have HR1:=Aside0.mk hr1
 have HC1:=Aside0.mk hc1
 clear hr1 hc1
 have HR2:=Aside0.mk hr2
 have HC2:=Aside0.mk hc2
 clear hr2 hc2
 have HB:=Aside0.mk (Below.refl w.heap.size w)
 have H:(if (l1.length:Int) > 1048576 then (some true) else ((laws_szSign.f l0_0 1048576).bind fun t382=>(if t382 < 0 then (some true) else ((laws_szLitS.f k l2 t382).bind fun t383=>(if t383 < 0 then (some true) else ((laws_toSign.f k l0_0).bind fun t384=>((laws_toIntS.f k l1).bind fun t387=>((laws_toLitS.f k l2).bind fun t390=>((spec_IsNormal.f k t384 t387 t390).bind fun bt393=>((laws_toSign.f k l0_0).bind fun t395=>((laws_toIntS.f k l1).bind fun t399=>((laws_toLitS.f k l2).bind fun t402=>((impl_IsNormal.f k t395 t399 t402).bind fun bt405=>(if (bt405.1 != bt393.1) = true then (laws_FnExactIsNormal.j0 k l1 l2 t399 t402 true l0_0 t395) else (laws_FnExactIsNormal.j0 k l1 l2 t399 t402 (bt405.2 != bt393.2) l0_0 t395))))))))))))))) = some r:=h
 clear h
 by_cases c4:(l1.length:Int) > 1048576
 ·rw [if_pos c4] at H
  have c4b0:decide (1048576 < (l1.length:Int)) = true:=decide_eq_true c4
  have c4b1:decide (1048576 < l1.length) = true:=decide_eq_true (by omega)
  clear c4
  obtain rfl:=Option.some.inj H
  go_enter Try.func3,Try.ntmps3
  go_wp2_with (first|((with_reducible refine gate_dst (N:=3) rfl ?_);refine box_event ?hg (N:=3) ?hd (cs:=#[.slice A0_0 l0_0.length c0_0]) (t:=24) ?hr ?_;(case hd=>rfl);(case hg=>rfl);(case hr=>first|(go_simp;done)|(go_simp;rfl));intro gb381 hg w5 hbox hb;have n0_:=Aside0.mk (below_step (by repeat (first|(with_reducible first|exact HB.out|apply below_alloc|apply pw_below_drewN|apply below_drew1)|exact HB.out)) hb);have n1_:=Aside0.mk (hbox);have n2_:=Aside0.mk ((by rw [hg];exact (below_size (by repeat (first|(with_reducible first|exact HB.out|apply below_alloc|apply pw_below_drewN|apply below_drew1)|exact HB.out))):w.heap.size ≤ gb381));have n3_:=Aside0.mk ((by rw [hg];exact (below_size (by repeat (first|(with_reducible first|exact HB.out|apply below_alloc|apply pw_below_drewN|apply below_drew1)|exact HB.out))):w.heap.size ≤ gb381));clear HB;have HB:=n0_;have BK381:=n1_;have GW381:=n2_;have GE381:=n3_;clear n0_ n1_ n2_ n3_;clear hb hbox hg))
  go_ret
  exact ⟨by first|rfl|(simp [errW_none,errW_some] <;> rfl)|(simp [*,errW_none,errW_some] <;> rfl),by repeat (first|(with_reducible first|exact HB.out|apply below_alloc|apply pw_below_drewN|apply below_drew1|refine below_set ?_ GE381.out)|exact HB.out)⟩
 ·rw [if_neg c4] at H
  have c4b0:decide (1048576 < (l1.length:Int)) = false:=decide_eq_false c4
  have c4b1:decide (1048576 < l1.length) = false:=decide_eq_false (by omega)
  clear c4
  replace H:=Option.bind_eq_some_iff.mp H
  obtain ⟨t382,A60,H⟩:=H
  replace H:(if t382 < 0 then (some true) else ((laws_szLitS.f k l2 t382).bind fun t383=>(if t383 < 0 then (some true) else ((laws_toSign.f k l0_0).bind fun t384=>((laws_toIntS.f k l1).bind fun t387=>((laws_toLitS.f k l2).bind fun t390=>((spec_IsNormal.f k t384 t387 t390).bind fun bt393=>((laws_toSign.f k l0_0).bind fun t395=>((laws_toIntS.f k l1).bind fun t399=>((laws_toLitS.f k l2).bind fun t402=>((impl_IsNormal.f k t395 t399 t402).bind fun bt405=>(if (bt405.1 != bt393.1) = true then (laws_FnExactIsNormal.j0 k l1 l2 t399 t402 true l0_0 t395) else (laws_FnExactIsNormal.j0 k l1 l2 t399 t402 (bt405.2 != bt393.2) l0_0 t395))))))))))))) = some r:=H
  have A6:=Aside0.mk A60
  clear A60
  by_cases c7:t382 < 0
  ·rw [if_pos c7] at H
   have c7b0:decide (t382 < 0) = true:=decide_eq_true c7
   clear c7
   obtain rfl:=Option.some.inj H
   go_enter Try.func3,Try.ntmps3
   go_wp2_with (first|((with_reducible refine gate_dst (N:=3) rfl ?_);refine box_event ?hg (N:=3) ?hd (cs:=#[.slice A0_0 l0_0.length c0_0]) (t:=24) ?hr ?_;(case hd=>rfl);(case hg=>rfl);(case hr=>first|(go_simp;done)|(go_simp;rfl));intro gb381 hg w8 hbox hb;have n0_:=Aside0.mk (below_step (by repeat (first|(with_reducible first|exact HB.out|apply below_alloc|apply pw_below_drewN|apply below_drew1)|exact HB.out)) hb);have n1_:=Aside0.mk (hbox);have n2_:=Aside0.mk ((by rw [hg];exact (below_size (by repeat (first|(with_reducible first|exact HB.out|apply below_alloc|apply pw_below_drewN|apply below_drew1)|exact HB.out))):w.heap.size ≤ gb381));have n3_:=Aside0.mk ((by rw [hg];exact (below_size (by repeat (first|(with_reducible first|exact HB.out|apply below_alloc|apply pw_below_drewN|apply below_drew1)|exact HB.out))):w.heap.size ≤ gb381));clear HB;have HB:=n0_;have BK381:=n1_;have GW381:=n2_;have GE381:=n3_;clear n0_ n1_ n2_ n3_;clear hb hbox hg;have hcz9_0:w8.cell? ⟨gb381,0,none⟩ = some (.slice A0_0 l0_0.length c0_0):=(blk_cell BK381.out 0).trans rfl;have hfz9_0:=blk_frozen BK381.out 0)|((with_reducible refine gate_callee (f:=9) rfl ?_);refine goesL_ (some 20) rfl rfl Try.func9 (by kernel_rfl) rfl #[.agg #[.slice A0_0 l0_0.length c0_0],.int .i64 1048576] rfl (by (try simp only [List.map_toArray,List.map_cons,List.map_nil]);first|done|rfl|(simp only [List.length_drop,List.length_take];rfl)) ?_;(with_reducible refine (laws_szSign.calls _ _ l0_0 1048576 t382 _ ?side1 ?side2 A6.out).mono ?_);(case side1=>repeat (first|exact (Kd.C_below HR0_0.out HB.out)|(with_reducible refine Kd.C_alloc ?_ _)|(with_reducible refine Kd.C_drewN ?_ _)|(with_reducible refine Kd.C_drew ?_)));(case side2=>exact HC0_0.out);rintro e w10 ⟨rfl,hb⟩;refine ⟨_,rfl,?_⟩;have n0_:=Aside0.mk (blk_below (g:=gb381) (o:=.cells #[.slice A0_0 l0_0.length c0_0] 24 (0,0)) (by (with_reducible repeat (first|refine blk_drewN ?_ _|refine blk_drew ?_|refine blk_alloc ?_ _));exact BK381.out) hb);have n1_:=Aside0.mk (below_step (by repeat (first|(with_reducible first|exact HB.out|apply below_alloc|apply pw_below_drewN|apply below_drew1|refine below_set ?_ GE381.out)|exact HB.out)) hb);clear BK381;clear HB;have BK381:=n0_;have HB:=n1_;clear n0_ n1_;(try clear hb);(try clear hb2);(try clear hk);(try clear hi)))
   go_ret
   exact ⟨by first|rfl|(simp [errW_none,errW_some] <;> rfl)|(simp [*,errW_none,errW_some] <;> rfl),by repeat (first|(with_reducible first|exact HB.out|apply below_alloc|apply pw_below_drewN|apply below_drew1|refine below_set ?_ GE381.out)|exact HB.out)⟩
  ·rw [if_neg c7] at H
   have c7b0:decide (t382 < 0) = false:=decide_eq_false c7
   clear c7
   replace H:=Option.bind_eq_some_iff.mp H
   obtain ⟨t383,A110,H⟩:=H
   replace H:(if t383 < 0 then (some true) else ((laws_toSign.f k l0_0).bind fun t384=>((laws_toIntS.f k l1).bind fun t387=>((laws_toLitS.f k l2).bind fun t390=>((spec_IsNormal.f k t384 t387 t390).bind fun bt393=>((laws_toSign.f k l0_0).bind fun t395=>((laws_toIntS.f k l1).bind fun t399=>((laws_toLitS.f k l2).bind fun t402=>((impl_IsNormal.f k t395 t399 t402).bind fun bt405=>(if (bt405.1 != bt393.1) = true then (laws_FnExactIsNormal.j0 k l1 l2 t399 t402 true l0_0 t395) else (laws_FnExactIsNormal.j0 k l1 l2 t399 t402 (bt405.2 != bt393.2) l0_0 t395))))))))))) = some r:=H
   have A11:=Aside0.mk A110
   clear A110
   by_cases c12:t383 < 0
   ·rw [if_pos c12] at H
    have c12b0:decide (t383 < 0) = true:=decide_eq_true c12
    clear c12
    obtain rfl:=Option.some.inj H
    go_enter Try.func3,Try.ntmps3
    go_wp2_with (first|((with_reducible refine gate_dst (N:=3) rfl ?_);refine box_event ?hg (N:=3) ?hd (cs:=#[.slice A0_0 l0_0.length c0_0]) (t:=24) ?hr ?_;(case hd=>rfl);(case hg=>rfl);(case hr=>first|(go_simp;done)|(go_simp;rfl));intro gb381 hg w13 hbox hb;have n0_:=Aside0.mk (below_step (by repeat (first|(with_reducible first|exact HB.out|apply below_alloc|apply pw_below_drewN|apply below_drew1)|exact HB.out)) hb);have n1_:=Aside0.mk (hbox);have n2_:=Aside0.mk ((by rw [hg];exact (below_size (by repeat (first|(with_reducible first|exact HB.out|apply below_alloc|apply pw_below_drewN|apply below_drew1)|exact HB.out))):w.heap.size ≤ gb381));have n3_:=Aside0.mk ((by rw [hg];exact (below_size (by repeat (first|(with_reducible first|exact HB.out|apply below_alloc|apply pw_below_drewN|apply below_drew1)|exact HB.out))):w.heap.size ≤ gb381));clear HB;have HB:=n0_;have BK381:=n1_;have GW381:=n2_;have GE381:=n3_;clear n0_ n1_ n2_ n3_;clear hb hbox hg;have hcz14_0:w13.cell? ⟨gb381,0,none⟩ = some (.slice A0_0 l0_0.length c0_0):=(blk_cell BK381.out 0).trans rfl;have hfz14_0:=blk_frozen BK381.out 0)|((with_reducible refine gate_callee (f:=9) rfl ?_);refine goesL_ (some 20) rfl rfl Try.func9 (by kernel_rfl) rfl #[.agg #[.slice A0_0 l0_0.length c0_0],.int .i64 1048576] rfl (by (try simp only [List.map_toArray,List.map_cons,List.map_nil]);first|done|rfl|(simp only [List.length_drop,List.length_take];rfl)) ?_;(with_reducible refine (laws_szSign.calls _ _ l0_0 1048576 t382 _ ?side1 ?side2 A6.out).mono ?_);(case side1=>repeat (first|exact (Kd.C_below HR0_0.out HB.out)|(with_reducible refine Kd.C_alloc ?_ _)|(with_reducible refine Kd.C_drewN ?_ _)|(with_reducible refine Kd.C_drew ?_)));(case side2=>exact HC0_0.out);rintro e w15 ⟨rfl,hb⟩;refine ⟨_,rfl,?_⟩;have n0_:=Aside0.mk (blk_below (g:=gb381) (o:=.cells #[.slice A0_0 l0_0.length c0_0] 24 (0,0)) (by (with_reducible repeat (first|refine blk_drewN ?_ _|refine blk_drew ?_|refine blk_alloc ?_ _));exact BK381.out) hb);have n1_:=Aside0.mk (below_step (by repeat (first|(with_reducible first|exact HB.out|apply below_alloc|apply pw_below_drewN|apply below_drew1|refine below_set ?_ GE381.out)|exact HB.out)) hb);clear BK381;clear HB;have BK381:=n0_;have HB:=n1_;clear n0_ n1_;(try clear hb);(try clear hb2);(try clear hk);(try clear hi))|((with_reducible refine gate_callee (f:=10) rfl ?_);refine goesL_ (some 25) rfl rfl Try.func10 (by kernel_rfl) rfl #[.slice A2 l2.length c2,.int .i64 t382] rfl (by (try simp only [List.map_toArray,List.map_cons,List.map_nil]);first|done|rfl|(simp only [List.length_drop,List.length_take];rfl)) ?_;(with_reducible refine (laws_szLitS.calls k _ _ l2 t382 t383 _ ?side1 ?side2 A11.out).mono ?_);(case side1=>repeat (first|exact (Kd.C_below HR2.out HB.out)|(with_reducible refine Kd.C_alloc ?_ _)|(with_reducible refine Kd.C_drewN ?_ _)|(with_reducible refine Kd.C_drew ?_)));(case side2=>exact HC2.out);rintro e w16 ⟨rfl,hb⟩;refine ⟨_,rfl,?_⟩;have n0_:=Aside0.mk (blk_below (g:=gb381) (o:=.cells #[.slice A0_0 l0_0.length c0_0] 24 (0,0)) (by (with_reducible repeat (first|refine blk_drewN ?_ _|refine blk_drew ?_|refine blk_alloc ?_ _));exact BK381.out) hb);have n1_:=Aside0.mk (below_step (by repeat (first|(with_reducible first|exact HB.out|apply below_alloc|apply pw_below_drewN|apply below_drew1|refine below_set ?_ GE381.out)|exact HB.out)) hb);clear BK381;clear HB;have BK381:=n0_;have HB:=n1_;clear n0_ n1_;(try clear hb);(try clear hb2);(try clear hk);(try clear hi)))
    go_ret
    exact ⟨by first|rfl|(simp [errW_none,errW_some] <;> rfl)|(simp [*,errW_none,errW_some] <;> rfl),by repeat (first|(with_reducible first|exact HB.out|apply below_alloc|apply pw_below_drewN|apply below_drew1|refine below_set ?_ GE381.out)|exact HB.out)⟩
   ·rw [if_neg c12] at H
    have c12b0:decide (t383 < 0) = false:=decide_eq_false c12
    clear c12
    replace H:=Option.bind_eq_some_iff.mp H
    obtain ⟨t384,A170,H⟩:=H
    replace H:((laws_toIntS.f k l1).bind fun t387=>((laws_toLitS.f k l2).bind fun t390=>((spec_IsNormal.f k t384 t387 t390).bind fun bt393=>((laws_toSign.f k l0_0).bind fun t395=>((laws_toIntS.f k l1).bind fun t399=>((laws_toLitS.f k l2).bind fun t402=>((impl_IsNormal.f k t395 t399 t402).bind fun bt405=>(if (bt405.1 != bt393.1) = true then (laws_FnExactIsNormal.j0 k l1 l2 t399 t402 true l0_0 t395) else (laws_FnExactIsNormal.j0 k l1 l2 t399 t402 (bt405.2 != bt393.2) l0_0 t395))))))))) = some r:=H
    have A17:=Aside0.mk A170
    clear A170
    replace H:=Option.bind_eq_some_iff.mp H
    obtain ⟨t387,A180,H⟩:=H
    replace H:((laws_toLitS.f k l2).bind fun t390=>((spec_IsNormal.f k t384 t387 t390).bind fun bt393=>((laws_toSign.f k l0_0).bind fun t395=>((laws_toIntS.f k l1).bind fun t399=>((laws_toLitS.f k l2).bind fun t402=>((impl_IsNormal.f k t395 t399 t402).bind fun bt405=>(if (bt405.1 != bt393.1) = true then (laws_FnExactIsNormal.j0 k l1 l2 t399 t402 true l0_0 t395) else (laws_FnExactIsNormal.j0 k l1 l2 t399 t402 (bt405.2 != bt393.2) l0_0 t395)))))))) = some r:=H
    have A18:=Aside0.mk A180
    clear A180
    replace H:=Option.bind_eq_some_iff.mp H
    obtain ⟨t390,A190,H⟩:=H
    replace H:((spec_IsNormal.f k t384 t387 t390).bind fun bt393=>((laws_toSign.f k l0_0).bind fun t395=>((laws_toIntS.f k l1).bind fun t399=>((laws_toLitS.f k l2).bind fun t402=>((impl_IsNormal.f k t395 t399 t402).bind fun bt405=>(if (bt405.1 != bt393.1) = true then (laws_FnExactIsNormal.j0 k l1 l2 t399 t402 true l0_0 t395) else (laws_FnExactIsNormal.j0 k l1 l2 t399 t402 (bt405.2 != bt393.2) l0_0 t395))))))) = some r:=H
    have A19:=Aside0.mk A190
    clear A190
    replace H:=Option.bind_eq_some_iff.mp H
    obtain ⟨⟨t393,t394⟩,A200,H⟩:=H
    replace H:((laws_toSign.f k l0_0).bind fun t395=>((laws_toIntS.f k l1).bind fun t399=>((laws_toLitS.f k l2).bind fun t402=>((impl_IsNormal.f k t395 t399 t402).bind fun bt405=>(if (bt405.1 != t393) = true then (laws_FnExactIsNormal.j0 k l1 l2 t399 t402 true l0_0 t395) else (laws_FnExactIsNormal.j0 k l1 l2 t399 t402 (bt405.2 != t394) l0_0 t395)))))) = some r:=H
    have A20:=Aside0.mk A200
    clear A200
    replace H:=Option.bind_eq_some_iff.mp H
    obtain ⟨t395,A210,H⟩:=H
    replace H:((laws_toIntS.f k l1).bind fun t399=>((laws_toLitS.f k l2).bind fun t402=>((impl_IsNormal.f k t395 t399 t402).bind fun bt405=>(if (bt405.1 != t393) = true then (laws_FnExactIsNormal.j0 k l1 l2 t399 t402 true l0_0 t395) else (laws_FnExactIsNormal.j0 k l1 l2 t399 t402 (bt405.2 != t394) l0_0 t395))))) = some r:=H
    have A21:=Aside0.mk A210
    clear A210
    replace H:=Option.bind_eq_some_iff.mp H
    obtain ⟨t399,A220,H⟩:=H
    replace H:((laws_toLitS.f k l2).bind fun t402=>((impl_IsNormal.f k t395 t399 t402).bind fun bt405=>(if (bt405.1 != t393) = true then (laws_FnExactIsNormal.j0 k l1 l2 t399 t402 true l0_0 t395) else (laws_FnExactIsNormal.j0 k l1 l2 t399 t402 (bt405.2 != t394) l0_0 t395)))) = some r:=H
    have A22:=Aside0.mk A220
    clear A220
    replace H:=Option.bind_eq_some_iff.mp H
    obtain ⟨t402,A230,H⟩:=H
    replace H:((impl_IsNormal.f k t395 t399 t402).bind fun bt405=>(if (bt405.1 != t393) = true then (laws_FnExactIsNormal.j0 k l1 l2 t399 t402 true l0_0 t395) else (laws_FnExactIsNormal.j0 k l1 l2 t399 t402 (bt405.2 != t394) l0_0 t395))) = some r:=H
    have A23:=Aside0.mk A230
    clear A230
    replace H:=Option.bind_eq_some_iff.mp H
    obtain ⟨⟨t405,t406⟩,A240,H⟩:=H
    replace H:(if (t405 != t393) = true then (laws_FnExactIsNormal.j0 k l1 l2 t399 t402 true l0_0 t395) else (laws_FnExactIsNormal.j0 k l1 l2 t399 t402 (t406 != t394) l0_0 t395)) = some r:=H
    have A24:=Aside0.mk A240
    clear A240
    have HC25:=Aside0.mk H
    clear H
    go_enter Try.func3,Try.ntmps3
    go_upto_region 15 with (first|((with_reducible refine gate_dst (N:=3) rfl ?_);refine box_event ?hg (N:=3) ?hd (cs:=#[.slice A0_0 l0_0.length c0_0]) (t:=24) ?hr ?_;(case hd=>rfl);(case hg=>rfl);(case hr=>first|(go_simp;done)|(go_simp;rfl));intro gb381 hg w26 hbox hb;have n0_:=Aside0.mk (below_step (by repeat (first|(with_reducible first|exact HB.out|apply below_alloc|apply pw_below_drewN|apply below_drew1)|exact HB.out)) hb);have n1_:=Aside0.mk (hbox);have n2_:=Aside0.mk ((by rw [hg];exact (below_size (by repeat (first|(with_reducible first|exact HB.out|apply below_alloc|apply pw_below_drewN|apply below_drew1)|exact HB.out))):w.heap.size ≤ gb381));have n3_:=Aside0.mk ((by rw [hg];exact (below_size (by repeat (first|(with_reducible first|exact HB.out|apply below_alloc|apply pw_below_drewN|apply below_drew1)|exact HB.out))):w.heap.size ≤ gb381));clear HB;have HB:=n0_;have BK381:=n1_;have GW381:=n2_;have GE381:=n3_;clear n0_ n1_ n2_ n3_;clear hb hbox hg;have hcz27_0:w26.cell? ⟨gb381,0,none⟩ = some (.slice A0_0 l0_0.length c0_0):=(blk_cell BK381.out 0).trans rfl;have hfz27_0:=blk_frozen BK381.out 0)|((with_reducible refine gate_callee (f:=9) rfl ?_);refine goesL_ (some 20) rfl rfl Try.func9 (by kernel_rfl) rfl #[.agg #[.slice A0_0 l0_0.length c0_0],.int .i64 1048576] rfl (by (try simp only [List.map_toArray,List.map_cons,List.map_nil]);first|done|rfl|(simp only [List.length_drop,List.length_take];rfl)) ?_;(with_reducible refine (laws_szSign.calls _ _ l0_0 1048576 t382 _ ?side1 ?side2 A6.out).mono ?_);(case side1=>repeat (first|exact (Kd.C_below HR0_0.out HB.out)|(with_reducible refine Kd.C_alloc ?_ _)|(with_reducible refine Kd.C_drewN ?_ _)|(with_reducible refine Kd.C_drew ?_)));(case side2=>exact HC0_0.out);rintro e w28 ⟨rfl,hb⟩;refine ⟨_,rfl,?_⟩;have n0_:=Aside0.mk (blk_below (g:=gb381) (o:=.cells #[.slice A0_0 l0_0.length c0_0] 24 (0,0)) (by (with_reducible repeat (first|refine blk_drewN ?_ _|refine blk_drew ?_|refine blk_alloc ?_ _));exact BK381.out) hb);have n1_:=Aside0.mk (below_step (by repeat (first|(with_reducible first|exact HB.out|apply below_alloc|apply pw_below_drewN|apply below_drew1|refine below_set ?_ GE381.out)|exact HB.out)) hb);clear BK381;clear HB;have BK381:=n0_;have HB:=n1_;clear n0_ n1_;(try clear hb);(try clear hb2);(try clear hk);(try clear hi))|((with_reducible refine gate_callee (f:=10) rfl ?_);refine goesL_ (some 25) rfl rfl Try.func10 (by kernel_rfl) rfl #[.slice A2 l2.length c2,.int .i64 t382] rfl (by (try simp only [List.map_toArray,List.map_cons,List.map_nil]);first|done|rfl|(simp only [List.length_drop,List.length_take];rfl)) ?_;(with_reducible refine (laws_szLitS.calls k _ _ l2 t382 t383 _ ?side1 ?side2 A11.out).mono ?_);(case side1=>repeat (first|exact (Kd.C_below HR2.out HB.out)|(with_reducible refine Kd.C_alloc ?_ _)|(with_reducible refine Kd.C_drewN ?_ _)|(with_reducible refine Kd.C_drew ?_)));(case side2=>exact HC2.out);rintro e w29 ⟨rfl,hb⟩;refine ⟨_,rfl,?_⟩;have n0_:=Aside0.mk (blk_below (g:=gb381) (o:=.cells #[.slice A0_0 l0_0.length c0_0] 24 (0,0)) (by (with_reducible repeat (first|refine blk_drewN ?_ _|refine blk_drew ?_|refine blk_alloc ?_ _));exact BK381.out) hb);have n1_:=Aside0.mk (below_step (by repeat (first|(with_reducible first|exact HB.out|apply below_alloc|apply pw_below_drewN|apply below_drew1|refine below_set ?_ GE381.out)|exact HB.out)) hb);clear BK381;clear HB;have BK381:=n0_;have HB:=n1_;clear n0_ n1_;(try clear hb);(try clear hb2);(try clear hk);(try clear hi);have hcz30_0:w29.cell? ⟨gb381,0,none⟩ = some (.slice A0_0 l0_0.length c0_0):=(blk_cell BK381.out 0).trans rfl;have hfz30_0:=blk_frozen BK381.out 0)|((with_reducible refine gate_callee (f:=12) rfl ?_);refine goesL_ (some 30) rfl rfl Try.func12 (by kernel_rfl) rfl #[.agg #[.slice A0_0 l0_0.length c0_0]] rfl (by (try simp only [List.map_toArray,List.map_cons,List.map_nil]);first|done|rfl|(simp only [List.length_drop,List.length_take];rfl)) ?_;(with_reducible refine (laws_toSign.calls k _ _ l0_0 t384 _ ?side1 ?side2 A17.out).mono ?_);(case side1=>repeat (first|exact (Kd.C_below HR0_0.out HB.out)|(with_reducible refine Kd.C_alloc ?_ _)|(with_reducible refine Kd.C_drewN ?_ _)|(with_reducible refine Kd.C_drew ?_)));(case side2=>exact HC0_0.out);rintro e w31 ⟨v385,rfl,ho0,hb⟩;refine ⟨_,rfl,?_⟩;have n0_:=Aside0.mk (Kd.R_lower ho0 (below_size (by repeat (first|(with_reducible first|exact HB.out|apply below_alloc|apply pw_below_drewN|apply below_drew1|refine below_set ?_ GE381.out)|exact HB.out))));have n1_:=Aside0.mk (blk_below (g:=gb381) (o:=.cells #[.slice A0_0 l0_0.length c0_0] 24 (0,0)) (by (with_reducible repeat (first|refine blk_drewN ?_ _|refine blk_drew ?_|refine blk_alloc ?_ _));exact BK381.out) hb);have n2_:=Aside0.mk (below_step (by repeat (first|(with_reducible first|exact HB.out|apply below_alloc|apply pw_below_drewN|apply below_drew1|refine below_set ?_ GE381.out)|exact HB.out)) hb);clear BK381;clear HB;have HO386:=n0_;have BK381:=n1_;have HB:=n2_;clear n0_ n1_ n2_;(try clear hb);(try clear hb2);(try clear hk);(try clear hi);(try clear ho0))|((with_reducible refine gate_callee (f:=13) rfl ?_);refine goesL_ (some 32) rfl rfl Try.func13 (by kernel_rfl) rfl #[.slice A1 l1.length c1] rfl (by (try simp only [List.map_toArray,List.map_cons,List.map_nil]);first|done|rfl|(simp only [List.length_drop,List.length_take];rfl)) ?_;(with_reducible refine (laws_toIntS.calls k _ _ l1 t387 _ ?side1 ?side2 A18.out).mono ?_);(case side1=>repeat (first|exact (Kd.C_below HR1.out HB.out)|(with_reducible refine Kd.C_alloc ?_ _)|(with_reducible refine Kd.C_drewN ?_ _)|(with_reducible refine Kd.C_drew ?_)));(case side2=>exact HC1.out);rintro e w32 ⟨v388,rfl,ho0,hb⟩;refine ⟨_,rfl,?_⟩;have n0_:=Aside0.mk (Kd.R_elder' (by (with_reducible repeat (first|apply Kd.R_alloc|apply Kd.R_drewN|apply Kd.R_drew));exact HO386.out) (Kd.R_base ho0) hb);have n1_:=Aside0.mk (Kd.R_lower (Kd.R_new' ho0 (Kd.R_lt (by (with_reducible repeat (first|apply Kd.R_alloc|apply Kd.R_drewN|apply Kd.R_drew));exact HO386.out))) (below_size (by repeat (first|(with_reducible first|exact HB.out|apply below_alloc|apply pw_below_drewN|apply below_drew1|refine below_set ?_ GE381.out)|exact HB.out))));have n2_:=Aside0.mk (blk_below (g:=gb381) (o:=.cells #[.slice A0_0 l0_0.length c0_0] 24 (0,0)) (by (with_reducible repeat (first|refine blk_drewN ?_ _|refine blk_drew ?_|refine blk_alloc ?_ _));exact BK381.out) hb);have n3_:=Aside0.mk (below_step (by repeat (first|(with_reducible first|exact HB.out|apply below_alloc|apply pw_below_drewN|apply below_drew1|refine below_set ?_ GE381.out)|exact HB.out)) hb);clear HO386;clear BK381;clear HB;have HO386:=n0_;have HO389:=n1_;have BK381:=n2_;have HB:=n3_;clear n0_ n1_ n2_ n3_;(try clear hb);(try clear hb2);(try clear hk);(try clear hi);(try clear ho0))|((with_reducible refine gate_callee (f:=14) rfl ?_);refine goesL_ (some 34) rfl rfl Try.func14 (by kernel_rfl) rfl #[.slice A2 l2.length c2] rfl (by (try simp only [List.map_toArray,List.map_cons,List.map_nil]);first|done|rfl|(simp only [List.length_drop,List.length_take];rfl)) ?_;(with_reducible refine (laws_toLitS.calls k _ _ l2 t390 _ ?side1 ?side2 A19.out).mono ?_);(case side1=>repeat (first|exact (Kd.C_below HR2.out HB.out)|(with_reducible refine Kd.C_alloc ?_ _)|(with_reducible refine Kd.C_drewN ?_ _)|(with_reducible refine Kd.C_drew ?_)));(case side2=>exact HC2.out);rintro e w33 ⟨v391,rfl,ho0,hb⟩;refine ⟨_,rfl,?_⟩;have n0_:=Aside0.mk (Kd.R_below (by (with_reducible repeat (first|apply Kd.R_alloc|apply Kd.R_drewN|apply Kd.R_drew));exact HO386.out) hb);have n1_:=Aside0.mk (Kd.R_below (by (with_reducible repeat (first|apply Kd.R_alloc|apply Kd.R_drewN|apply Kd.R_drew));exact HO389.out) hb);have n2_:=Aside0.mk (Kd.S_lower (Kd.S_new' (Kd.S_new' ho0 (Kd.R_lt (by (with_reducible repeat (first|apply Kd.R_alloc|apply Kd.R_drewN|apply Kd.R_drew));exact HO386.out))) (Kd.R_lt (by (with_reducible repeat (first|apply Kd.R_alloc|apply Kd.R_drewN|apply Kd.R_drew));exact HO389.out))) (below_size (by repeat (first|(with_reducible first|exact HB.out|apply below_alloc|apply pw_below_drewN|apply below_drew1|refine below_set ?_ GE381.out)|exact HB.out))));have n3_:=Aside0.mk (blk_below (g:=gb381) (o:=.cells #[.slice A0_0 l0_0.length c0_0] 24 (0,0)) (by (with_reducible repeat (first|refine blk_drewN ?_ _|refine blk_drew ?_|refine blk_alloc ?_ _));exact BK381.out) hb);have n4_:=Aside0.mk (below_step (by repeat (first|(with_reducible first|exact HB.out|apply below_alloc|apply pw_below_drewN|apply below_drew1|refine below_set ?_ GE381.out)|exact HB.out)) hb);clear HO386;clear HO389;clear BK381;clear HB;have HO386:=n0_;have HO389:=n1_;have HO392:=n2_;have BK381:=n3_;have HB:=n4_;clear n0_ n1_ n2_ n3_ n4_;(try clear hb);(try clear hb2);(try clear hk);(try clear hi);(try clear ho0);obtain ⟨Ao34,co34,eo34⟩:=Kd.R_slice HO386.out;subst eo34;obtain ⟨Ao35,co35,eo35⟩:=Kd.R_slice HO389.out;subst eo35;obtain ⟨Ao36,co36,eo36⟩:=Kd.S_slice HO392.out;subst eo36)|((with_reducible refine gate_callee (f:=11) rfl ?_);refine goesL_ (some 35) rfl rfl Try.func11 (by kernel_rfl) rfl #[.agg #[.slice Ao34 t384.length co34],.slice Ao35 t387.length co35,.slice Ao36 t390.length co36] rfl (by (try simp only [List.map_toArray,List.map_cons,List.map_nil]);first|done|rfl|(simp only [List.length_drop,List.length_take];rfl)) ?_;(with_reducible refine (spec_IsNormal.calls k _ _ t384 _ _ t387 _ _ t390 t393 t394 _ ?side1 ?side2 ?side3 ?side4 ?side5 ?side6 A20.out).mono ?_);(case side1=>repeat (first|exact (Kd.R_reads' HO386.out).2.2|(with_reducible refine Kd.C_alloc ?_ _)|(with_reducible refine Kd.C_drewN ?_ _)|(with_reducible refine Kd.C_drew ?_)));(case side2=>exact (Kd.R_reads' HO386.out).2.1);(case side3=>repeat (first|exact (Kd.R_reads' HO389.out).2.2|(with_reducible refine Kd.C_alloc ?_ _)|(with_reducible refine Kd.C_drewN ?_ _)|(with_reducible refine Kd.C_drew ?_)));(case side4=>exact (Kd.R_reads' HO389.out).2.1);(case side5=>repeat (first|exact (Kd.S_reads' HO392.out).2.2|(with_reducible refine Kd.C_alloc ?_ _)|(with_reducible refine Kd.C_drewN ?_ _)|(with_reducible refine Kd.C_drew ?_)));(case side6=>exact (Kd.S_reads' HO392.out).2.1);rintro e w37 ⟨rfl,hb⟩;refine ⟨_,rfl,?_⟩;have n0_:=Aside0.mk (Kd.R_below (by (with_reducible repeat (first|apply Kd.R_alloc|apply Kd.R_drewN|apply Kd.R_drew));exact HO386.out) hb);have n1_:=Aside0.mk (Kd.R_below (by (with_reducible repeat (first|apply Kd.R_alloc|apply Kd.R_drewN|apply Kd.R_drew));exact HO389.out) hb);have n2_:=Aside0.mk (Kd.S_below (by (with_reducible repeat (first|apply Kd.S_alloc|apply Kd.S_drewN|apply Kd.S_drew));exact HO392.out) hb);have n3_:=Aside0.mk (blk_below (g:=gb381) (o:=.cells #[.slice A0_0 l0_0.length c0_0] 24 (0,0)) (by (with_reducible repeat (first|refine blk_drewN ?_ _|refine blk_drew ?_|refine blk_alloc ?_ _));exact BK381.out) hb);have n4_:=Aside0.mk (below_step (by repeat (first|(with_reducible first|exact HB.out|apply below_alloc|apply pw_below_drewN|apply below_drew1|refine below_set ?_ GE381.out)|exact HB.out)) hb);clear HO386;clear HO389;clear HO392;clear BK381;clear HB;have HO386:=n0_;have HO389:=n1_;have HO392:=n2_;have BK381:=n3_;have HB:=n4_;clear n0_ n1_ n2_ n3_ n4_;(try clear hb);(try clear hb2);(try clear hk);(try clear hi);have hcz38_0:w37.cell? ⟨gb381,0,none⟩ = some (.slice A0_0 l0_0.length c0_0):=(blk_cell BK381.out 0).trans rfl;have hfz38_0:=blk_frozen BK381.out 0)|((with_reducible refine gate_callee (f:=12) rfl ?_);refine goesL_ (some 39) rfl rfl Try.func12 (by kernel_rfl) rfl #[.agg #[.slice A0_0 l0_0.length c0_0]] rfl (by (try simp only [List.map_toArray,List.map_cons,List.map_nil]);first|done|rfl|(simp only [List.length_drop,List.length_take];rfl)) ?_;(with_reducible refine (laws_toSign.calls k _ _ l0_0 t395 _ ?side1 ?side2 A21.out).mono ?_);(case side1=>repeat (first|exact (Kd.C_below HR0_0.out HB.out)|(with_reducible refine Kd.C_alloc ?_ _)|(with_reducible refine Kd.C_drewN ?_ _)|(with_reducible refine Kd.C_drew ?_)));(case side2=>exact HC0_0.out);rintro e w39 ⟨v396,rfl,ho0,hb⟩;refine ⟨_,rfl,?_⟩;have n0_:=Aside0.mk (Kd.R_elder' (by (with_reducible repeat (first|apply Kd.R_alloc|apply Kd.R_drewN|apply Kd.R_drew));exact HO386.out) (Kd.R_base ho0) hb);have n1_:=Aside0.mk (Kd.R_elder' (by (with_reducible repeat (first|apply Kd.R_alloc|apply Kd.R_drewN|apply Kd.R_drew));exact HO389.out) (Kd.R_base ho0) hb);have n2_:=Aside0.mk (Kd.S_elder' (by (with_reducible repeat (first|apply Kd.S_alloc|apply Kd.S_drewN|apply Kd.S_drew));exact HO392.out) (Kd.R_base ho0) hb);have n3_:=Aside0.mk (Kd.R_lower (Kd.R_new' (Kd.R_new' ho0 (Kd.R_lt (by (with_reducible repeat (first|apply Kd.R_alloc|apply Kd.R_drewN|apply Kd.R_drew));exact HO386.out))) (Kd.R_lt (by (with_reducible repeat (first|apply Kd.R_alloc|apply Kd.R_drewN|apply Kd.R_drew));exact HO389.out))) (below_size (by repeat (first|(with_reducible first|exact HB.out|apply below_alloc|apply pw_below_drewN|apply below_drew1|refine below_set ?_ GE381.out)|exact HB.out))));have n4_:=Aside0.mk (blk_below (g:=gb381) (o:=.cells #[.slice A0_0 l0_0.length c0_0] 24 (0,0)) (by (with_reducible repeat (first|refine blk_drewN ?_ _|refine blk_drew ?_|refine blk_alloc ?_ _));exact BK381.out) hb);have n5_:=Aside0.mk (below_step (by repeat (first|(with_reducible first|exact HB.out|apply below_alloc|apply pw_below_drewN|apply below_drew1|refine below_set ?_ GE381.out)|exact HB.out)) hb);clear HO386;clear HO389;clear HO392;clear BK381;clear HB;have HO386:=n0_;have HO389:=n1_;have HO392:=n2_;have HO397:=n3_;have BK381:=n4_;have HB:=n5_;clear n0_ n1_ n2_ n3_ n4_ n5_;(try clear hb);(try clear hb2);(try clear hk);(try clear hi);(try clear ho0))|((with_reducible refine gate_dst (N:=10) rfl ?_);refine box_event ?hg (N:=10) ?hd (cs:=#[.slice none 0 0]) (t:=30) ?hr ?_;(case hd=>rfl);(case hg=>rfl);(case hr=>first|(go_simp;done)|(go_simp;rfl));intro gb398 hg w40 hbox hb;have n0_:=Aside0.mk (Kd.R_below (by (with_reducible repeat (first|apply Kd.R_alloc|apply Kd.R_drewN|apply Kd.R_drew));exact HO386.out) hb);have n1_:=Aside0.mk (Kd.R_below (by (with_reducible repeat (first|apply Kd.R_alloc|apply Kd.R_drewN|apply Kd.R_drew));exact HO389.out) hb);have n2_:=Aside0.mk (Kd.S_below (by (with_reducible repeat (first|apply Kd.S_alloc|apply Kd.S_drewN|apply Kd.S_drew));exact HO392.out) hb);have n3_:=Aside0.mk (Kd.R_below (by (with_reducible repeat (first|apply Kd.R_alloc|apply Kd.R_drewN|apply Kd.R_drew));exact HO397.out) hb);have n4_:=Aside0.mk (blk_below (g:=gb381) (o:=.cells #[.slice A0_0 l0_0.length c0_0] 24 (0,0)) (by (with_reducible repeat (first|refine blk_drewN ?_ _|refine blk_drew ?_|refine blk_alloc ?_ _));exact BK381.out) hb);have n5_:=Aside0.mk (below_step (by repeat (first|(with_reducible first|exact HB.out|apply below_alloc|apply pw_below_drewN|apply below_drew1|refine below_set ?_ GE381.out)|exact HB.out)) hb);have n6_:=Aside0.mk (hbox);have n7_:=Aside0.mk ((by rw [hg];exact (below_size (by repeat (first|(with_reducible first|exact HB.out|apply below_alloc|apply pw_below_drewN|apply below_drew1|refine below_set ?_ GE381.out)|exact HB.out))):w.heap.size ≤ gb398));have n8_:=Aside0.mk ((by rw [hg];exact (below_size (by repeat (first|(with_reducible first|exact HB.out|apply below_alloc|apply pw_below_drewN|apply below_drew1|refine below_set ?_ GE381.out)|exact HB.out))):w.heap.size ≤ gb398));have n9_:=Aside0.mk ((by rw [hg];exact Nat.ne_of_lt (blk_lt (g:=gb381) (o:=.cells #[.slice A0_0 l0_0.length c0_0] 24 (0,0)) (by (with_reducible repeat (first|refine blk_drewN ?_ _|refine blk_drew ?_|refine blk_alloc ?_ _));exact BK381.out)):gb381 ≠ gb398));have n10_:=Aside0.mk ((by rw [hg];exact Nat.ne_of_gt (blk_lt (g:=gb381) (o:=.cells #[.slice A0_0 l0_0.length c0_0] 24 (0,0)) (by (with_reducible repeat (first|refine blk_drewN ?_ _|refine blk_drew ?_|refine blk_alloc ?_ _));exact BK381.out)):gb398 ≠ gb381));clear HO386;clear HO389;clear HO392;clear HO397;clear BK381;clear HB;have HO386:=n0_;have HO389:=n1_;have HO392:=n2_;have HO397:=n3_;have BK381:=n4_;have HB:=n5_;have BK398:=n6_;have GW398:=n7_;have GE398:=n8_;have NB381_398:=n9_;have NB398_381:=n10_;clear n0_ n1_ n2_ n3_ n4_ n5_ n6_ n7_ n8_ n9_ n10_;clear hb hbox hg;obtain ⟨Ao41,co41,eo41⟩:=Kd.R_slice HO397.out;subst eo41;have hnb42:=NB398_381.out;have hnc42:=NB381_398.out;have hcz43_0:w40.cell? ⟨gb398,0,none⟩ = some (.slice none 0 0):=(blk_cell BK398.out 0).trans rfl;have hfz43_0:=blk_frozen BK398.out 0)|((with_reducible refine gate_callee (f:=13) rfl ?_);refine goesL_ (some 41) rfl rfl Try.func13 (by kernel_rfl) rfl #[.slice A1 l1.length c1] rfl (by (try simp only [List.map_toArray,List.map_cons,List.map_nil]);first|done|rfl|(simp only [List.length_drop,List.length_take];rfl)) ?_;(with_reducible refine (laws_toIntS.calls k _ _ l1 t399 _ ?side1 ?side2 A22.out).mono ?_);(case side1=>exact Kd.C_below HR1.out (by repeat (first|(with_reducible first|exact HB.out|apply below_alloc|apply pw_below_drewN|apply below_drew1|refine below_set ?_ GE381.out|refine below_set ?_ GE398.out)|exact HB.out)));(case side2=>exact HC1.out);rintro e w44 ⟨v400,rfl,ho0,hb⟩;refine ⟨_,rfl,?_⟩;have n0_:=Aside0.mk (Kd.R_elder' (by (with_reducible repeat (first|apply Kd.R_alloc|apply Kd.R_drewN|apply Kd.R_drew));exact (Kd.R_mono (Kd.R_far (p:=⟨gb398,0,none⟩) (Kd.R_types HO386.out BK398.out (by decide)) (fun _ hk=>hk.2) (.slice Ao41 t395.length co41)) (fun _ h_=>h_.1))) (Kd.R_base ho0) hb);have n1_:=Aside0.mk (Kd.R_elder' (by (with_reducible repeat (first|apply Kd.R_alloc|apply Kd.R_drewN|apply Kd.R_drew));exact (Kd.R_mono (Kd.R_far (p:=⟨gb398,0,none⟩) (Kd.R_types HO389.out BK398.out (by decide)) (fun _ hk=>hk.2) (.slice Ao41 t395.length co41)) (fun _ h_=>h_.1))) (Kd.R_base ho0) hb);have n2_:=Aside0.mk (Kd.S_elder' (by (with_reducible repeat (first|apply Kd.S_alloc|apply Kd.S_drewN|apply Kd.S_drew));exact (Kd.S_mono (Kd.S_far (p:=⟨gb398,0,none⟩) (Kd.S_types HO392.out BK398.out (by decide)) (fun _ hk=>hk.2) (.slice Ao41 t395.length co41)) (fun _ h_=>h_.1))) (Kd.R_base ho0) hb);have n3_:=Aside0.mk (Kd.R_elder' (by (with_reducible repeat (first|apply Kd.R_alloc|apply Kd.R_drewN|apply Kd.R_drew));exact (Kd.R_mono (Kd.R_far (p:=⟨gb398,0,none⟩) (Kd.R_types HO397.out BK398.out (by decide)) (fun _ hk=>hk.2) (.slice Ao41 t395.length co41)) (fun _ h_=>h_.1))) (Kd.R_base ho0) hb);have n4_:=Aside0.mk (Kd.R_lower (Kd.R_new' (Kd.R_new' (Kd.R_new' ho0 (Kd.R_lt (by (with_reducible repeat (first|apply Kd.R_alloc|apply Kd.R_drewN|apply Kd.R_drew));exact (Kd.R_mono (Kd.R_far (p:=⟨gb398,0,none⟩) (Kd.R_types HO386.out BK398.out (by decide)) (fun _ hk=>hk.2) (.slice Ao41 t395.length co41)) (fun _ h_=>h_.1))))) (Kd.R_lt (by (with_reducible repeat (first|apply Kd.R_alloc|apply Kd.R_drewN|apply Kd.R_drew));exact (Kd.R_mono (Kd.R_far (p:=⟨gb398,0,none⟩) (Kd.R_types HO389.out BK398.out (by decide)) (fun _ hk=>hk.2) (.slice Ao41 t395.length co41)) (fun _ h_=>h_.1))))) (Kd.R_lt (by (with_reducible repeat (first|apply Kd.R_alloc|apply Kd.R_drewN|apply Kd.R_drew));exact (Kd.R_mono (Kd.R_far (p:=⟨gb398,0,none⟩) (Kd.R_types HO397.out BK398.out (by decide)) (fun _ hk=>hk.2) (.slice Ao41 t395.length co41)) (fun _ h_=>h_.1))))) (below_size (by repeat (first|(with_reducible first|exact HB.out|apply below_alloc|apply pw_below_drewN|apply below_drew1|refine below_set ?_ GE381.out|refine below_set ?_ GE398.out)|exact HB.out))));have n5_:=Aside0.mk (blk_below (g:=gb381) (o:=.cells #[.slice A0_0 l0_0.length c0_0] 24 (0,0)) (by (with_reducible repeat (first|refine blk_drewN ?_ _|refine blk_drew ?_|refine blk_alloc ?_ _));refine blk_far ?_ NB381_398.out _;(with_reducible repeat (first|refine blk_drewN ?_ _|refine blk_drew ?_|refine blk_alloc ?_ _));exact BK381.out) hb);have n6_:=Aside0.mk (blk_below (g:=gb398) (o:=.cells #[.slice Ao41 t395.length co41] 30 (0,0)) (by (with_reducible repeat (first|refine blk_drewN ?_ _|refine blk_drew ?_|refine blk_alloc ?_ _));refine blk_put (cs:=#[.slice none 0 0]) ?_ 0 _ rfl;(with_reducible repeat (first|refine blk_drewN ?_ _|refine blk_drew ?_|refine blk_alloc ?_ _));exact BK398.out) hb);have n7_:=Aside0.mk (below_step (by repeat (first|(with_reducible first|exact HB.out|apply below_alloc|apply pw_below_drewN|apply below_drew1|refine below_set ?_ GE381.out|refine below_set ?_ GE398.out)|exact HB.out)) hb);clear HO386;clear HO389;clear HO392;clear HO397;clear BK381;clear BK398;clear HB;have HO386:=n0_;have HO389:=n1_;have HO392:=n2_;have HO397:=n3_;have HO401:=n4_;have BK381:=n5_;have BK398:=n6_;have HB:=n7_;clear n0_ n1_ n2_ n3_ n4_ n5_ n6_ n7_;(try clear hb);(try clear hb2);(try clear hk);(try clear hi);(try clear ho0))|((with_reducible refine gate_callee (f:=14) rfl ?_);refine goesL_ (some 43) rfl rfl Try.func14 (by kernel_rfl) rfl #[.slice A2 l2.length c2] rfl (by (try simp only [List.map_toArray,List.map_cons,List.map_nil]);first|done|rfl|(simp only [List.length_drop,List.length_take];rfl)) ?_;(with_reducible refine (laws_toLitS.calls k _ _ l2 t402 _ ?side1 ?side2 A23.out).mono ?_);(case side1=>repeat (first|exact (Kd.C_below HR2.out HB.out)|(with_reducible refine Kd.C_alloc ?_ _)|(with_reducible refine Kd.C_drewN ?_ _)|(with_reducible refine Kd.C_drew ?_)));(case side2=>exact HC2.out);rintro e w45 ⟨v403,rfl,ho0,hb⟩;refine ⟨_,rfl,?_⟩;have n0_:=Aside0.mk (Kd.R_below (by (with_reducible repeat (first|apply Kd.R_alloc|apply Kd.R_drewN|apply Kd.R_drew));exact HO386.out) hb);have n1_:=Aside0.mk (Kd.R_below (by (with_reducible repeat (first|apply Kd.R_alloc|apply Kd.R_drewN|apply Kd.R_drew));exact HO389.out) hb);have n2_:=Aside0.mk (Kd.S_elder' (by (with_reducible repeat (first|apply Kd.S_alloc|apply Kd.S_drewN|apply Kd.S_drew));exact HO392.out) (Kd.S_base ho0) hb);have n3_:=Aside0.mk (Kd.R_below (by (with_reducible repeat (first|apply Kd.R_alloc|apply Kd.R_drewN|apply Kd.R_drew));exact HO397.out) hb);have n4_:=Aside0.mk (Kd.R_below (by (with_reducible repeat (first|apply Kd.R_alloc|apply Kd.R_drewN|apply Kd.R_drew));exact HO401.out) hb);have n5_:=Aside0.mk (Kd.S_lower (Kd.S_new' (Kd.S_new' (Kd.S_new' (Kd.S_new' (Kd.S_new' ho0 (Kd.R_lt (by (with_reducible repeat (first|apply Kd.R_alloc|apply Kd.R_drewN|apply Kd.R_drew));exact HO386.out))) (Kd.R_lt (by (with_reducible repeat (first|apply Kd.R_alloc|apply Kd.R_drewN|apply Kd.R_drew));exact HO389.out))) (Kd.S_lt (by (with_reducible repeat (first|apply Kd.S_alloc|apply Kd.S_drewN|apply Kd.S_drew));exact HO392.out))) (Kd.R_lt (by (with_reducible repeat (first|apply Kd.R_alloc|apply Kd.R_drewN|apply Kd.R_drew));exact HO397.out))) (Kd.R_lt (by (with_reducible repeat (first|apply Kd.R_alloc|apply Kd.R_drewN|apply Kd.R_drew));exact HO401.out))) (below_size (by repeat (first|(with_reducible first|exact HB.out|apply below_alloc|apply pw_below_drewN|apply below_drew1|refine below_set ?_ GE381.out|refine below_set ?_ GE398.out)|exact HB.out))));have n6_:=Aside0.mk (blk_below (g:=gb381) (o:=.cells #[.slice A0_0 l0_0.length c0_0] 24 (0,0)) (by (with_reducible repeat (first|refine blk_drewN ?_ _|refine blk_drew ?_|refine blk_alloc ?_ _));exact BK381.out) hb);have n7_:=Aside0.mk (blk_below (g:=gb398) (o:=.cells #[.slice Ao41 t395.length co41] 30 (0,0)) (by (with_reducible repeat (first|refine blk_drewN ?_ _|refine blk_drew ?_|refine blk_alloc ?_ _));exact BK398.out) hb);have n8_:=Aside0.mk (below_step (by repeat (first|(with_reducible first|exact HB.out|apply below_alloc|apply pw_below_drewN|apply below_drew1|refine below_set ?_ GE381.out|refine below_set ?_ GE398.out)|exact HB.out)) hb);clear HO386;clear HO389;clear HO392;clear HO397;clear HO401;clear BK381;clear BK398;clear HB;have HO386:=n0_;have HO389:=n1_;have HO392:=n2_;have HO397:=n3_;have HO401:=n4_;have HO404:=n5_;have BK381:=n6_;have BK398:=n7_;have HB:=n8_;clear n0_ n1_ n2_ n3_ n4_ n5_ n6_ n7_ n8_;(try clear hb);(try clear hb2);(try clear hk);(try clear hi);(try clear ho0);have hcz46_0:w45.cell? ⟨gb398,0,none⟩ = some (.slice Ao41 t395.length co41):=(blk_cell BK398.out 0).trans rfl;have hfz46_0:=blk_frozen BK398.out 0;obtain ⟨Ao47,co47,eo47⟩:=Kd.R_slice HO401.out;subst eo47;obtain ⟨Ao48,co48,eo48⟩:=Kd.S_slice HO404.out;subst eo48)|((with_reducible refine gate_callee (f:=15) rfl ?_);refine goesL_ (some 48) rfl rfl Try.func15 (by kernel_rfl) rfl #[.agg #[.slice Ao41 t395.length co41],.slice Ao47 t399.length co47,.slice Ao48 t402.length co48] rfl (by (try simp only [List.map_toArray,List.map_cons,List.map_nil]);first|done|rfl|(simp only [List.length_drop,List.length_take];rfl)) ?_;(with_reducible refine (impl_IsNormal.calls k _ _ t395 _ _ t399 _ _ t402 t405 t406 _ ?side1 ?side2 ?side3 ?side4 ?side5 ?side6 A24.out).mono ?_);(case side1=>repeat (first|exact (Kd.R_reads' HO397.out).2.2|(with_reducible refine Kd.C_alloc ?_ _)|(with_reducible refine Kd.C_drewN ?_ _)|(with_reducible refine Kd.C_drew ?_)));(case side2=>exact (Kd.R_reads' HO397.out).2.1);(case side3=>repeat (first|exact (Kd.R_reads' HO401.out).2.2|(with_reducible refine Kd.C_alloc ?_ _)|(with_reducible refine Kd.C_drewN ?_ _)|(with_reducible refine Kd.C_drew ?_)));(case side4=>exact (Kd.R_reads' HO401.out).2.1);(case side5=>repeat (first|exact (Kd.S_reads' HO404.out).2.2|(with_reducible refine Kd.C_alloc ?_ _)|(with_reducible refine Kd.C_drewN ?_ _)|(with_reducible refine Kd.C_drew ?_)));(case side6=>exact (Kd.S_reads' HO404.out).2.1);rintro e w49 ⟨rfl,hb⟩;refine ⟨_,rfl,?_⟩;have n0_:=Aside0.mk (Kd.R_below (by (with_reducible repeat (first|apply Kd.R_alloc|apply Kd.R_drewN|apply Kd.R_drew));exact HO386.out) hb);have n1_:=Aside0.mk (Kd.R_below (by (with_reducible repeat (first|apply Kd.R_alloc|apply Kd.R_drewN|apply Kd.R_drew));exact HO389.out) hb);have n2_:=Aside0.mk (Kd.S_below (by (with_reducible repeat (first|apply Kd.S_alloc|apply Kd.S_drewN|apply Kd.S_drew));exact HO392.out) hb);have n3_:=Aside0.mk (Kd.R_below (by (with_reducible repeat (first|apply Kd.R_alloc|apply Kd.R_drewN|apply Kd.R_drew));exact HO397.out) hb);have n4_:=Aside0.mk (Kd.R_below (by (with_reducible repeat (first|apply Kd.R_alloc|apply Kd.R_drewN|apply Kd.R_drew));exact HO401.out) hb);have n5_:=Aside0.mk (Kd.S_below (by (with_reducible repeat (first|apply Kd.S_alloc|apply Kd.S_drewN|apply Kd.S_drew));exact HO404.out) hb);have n6_:=Aside0.mk (blk_below (g:=gb381) (o:=.cells #[.slice A0_0 l0_0.length c0_0] 24 (0,0)) (by (with_reducible repeat (first|refine blk_drewN ?_ _|refine blk_drew ?_|refine blk_alloc ?_ _));exact BK381.out) hb);have n7_:=Aside0.mk (blk_below (g:=gb398) (o:=.cells #[.slice Ao41 t395.length co41] 30 (0,0)) (by (with_reducible repeat (first|refine blk_drewN ?_ _|refine blk_drew ?_|refine blk_alloc ?_ _));exact BK398.out) hb);have n8_:=Aside0.mk (below_step (by repeat (first|(with_reducible first|exact HB.out|apply below_alloc|apply pw_below_drewN|apply below_drew1|refine below_set ?_ GE381.out|refine below_set ?_ GE398.out)|exact HB.out)) hb);clear HO386;clear HO389;clear HO392;clear HO397;clear HO401;clear HO404;clear BK381;clear BK398;clear HB;have HO386:=n0_;have HO389:=n1_;have HO392:=n2_;have HO397:=n3_;have HO401:=n4_;have HO404:=n5_;have BK381:=n6_;have BK398:=n7_;have HB:=n8_;clear n0_ n1_ n2_ n3_ n4_ n5_ n6_ n7_ n8_;(try clear hb);(try clear hb2);(try clear hk);(try clear hi)))
    (try simp only [Act.put,List.setIfInBounds_toArray,List.set_cons_zero,List.set_cons_succ])
    go_cut [58] (fun v58 wc=>∃ (kq:Nat) (x58_24:Bool),v58 = .bool x58_24 ∧ Aside0 (laws_FnExactIsNormal.j0 kq l1 l2 t399 t402 x58_24 l0_0 t395 = some r) ∧ Aside0 (kq ≤ k) ∧ Aside0 (Kd.R (Kd.int .i64) 3 wc w.heap.size (fun k_=>some k_ ≠ ((.slice Ao41 t395.length co41):Value).ownBlock) (.slice Ao47 t399.length co47) t399) ∧ Aside0 (Kd.S k65 65 wc w.heap.size (fun k_=>some k_ ≠ ((.slice Ao47 t399.length co47):Value).ownBlock ∧ some k_ ≠ ((.slice Ao41 t395.length co41):Value).ownBlock) (.slice Ao48 t402.length co48) t402) ∧ Aside0 (Kd.R (Kd.int .i64) 3 wc w.heap.size (fun k_=>some k_ ≠ ((.slice Ao47 t399.length co47):Value).ownBlock) (.slice Ao41 t395.length co41) t395) ∧ Aside0 (wc.heap[gb381]? = some (.cells #[(.slice A0_0 l0_0.length c0_0)] 24 (0,0))) ∧ Aside0 (wc.heap[gb398]? = some (.cells #[(.slice Ao41 t395.length co41)] 30 (0,0))) ∧ Aside0 (Below w.heap.size w wc))
    case first =>
     have H:=HC25.out
     clear HC25
     by_cases c50:(t405 != t393) = true
     ·rw [if_pos c50] at H
      have c50b0:(t405 != t393) = true:=c50
      (try (have c50b1:decide (t405 = t393) = false:=by simpa using c50))
      (try (have c50b2:(t405 == t393) = false:=by simpa using c50))
      (try (have c50b3:¬ (t405 = t393):=by simpa using c50))
      clear c50
      (first|rw [c50b0]|(simp only [i64_w,i32_w];rw [c50b0])|skip)
      have H':=Aside0.mk H
      clear H
      go_wp2
      go_meet
      case rel=>exact ⟨_,(true),(by first|rfl|(simp;done)|(simp [*];done)),H',⟨by first|omega|exact Nat.le_refl _⟩,⟨by (with_reducible repeat (first|apply Kd.R_alloc|apply Kd.R_drewN|apply Kd.R_drew));exact Kd.R_mono HO401.out (fun _ hk=>hk.2)⟩,⟨by (with_reducible repeat (first|apply Kd.S_alloc|apply Kd.S_drewN|apply Kd.S_drew));exact Kd.S_mono HO404.out (fun _ hk=>⟨hk.2,hk.1.2⟩)⟩,⟨by (with_reducible repeat (first|apply Kd.R_alloc|apply Kd.R_drewN|apply Kd.R_drew));exact Kd.R_mono HO397.out (fun _ hk=>hk.2)⟩,⟨by (with_reducible repeat (first|refine blk_drewN ?_ _|refine blk_drew ?_|refine blk_alloc ?_ _));exact BK381.out⟩,⟨by (with_reducible repeat (first|refine blk_drewN ?_ _|refine blk_drew ?_|refine blk_alloc ?_ _));exact BK398.out⟩,⟨by repeat (first|(with_reducible first|exact HB.out|apply below_alloc|apply pw_below_drewN|apply below_drew1|refine below_set ?_ GE381.out|refine below_set ?_ GE398.out)|exact HB.out)⟩⟩
     ·rw [if_neg c50] at H
      have c50b0:(t405 != t393) = false:=by simpa using c50
      (try (have c50b1:decide (t405 = t393) = true:=by simpa using c50))
      (try (have c50b2:(t405 == t393) = true:=by simpa using c50))
      clear c50
      (first|rw [c50b0]|(simp only [i64_w,i32_w];rw [c50b0])|skip)
      have H':=Aside0.mk H
      clear H
      go_wp2
      go_meet
      case rel=>exact ⟨_,((t406 != t394)),(by first|rfl|(simp;done)|(simp [*];done)),H',⟨by first|omega|exact Nat.le_refl _⟩,⟨by (with_reducible repeat (first|apply Kd.R_alloc|apply Kd.R_drewN|apply Kd.R_drew));exact Kd.R_mono HO401.out (fun _ hk=>hk.2)⟩,⟨by (with_reducible repeat (first|apply Kd.S_alloc|apply Kd.S_drewN|apply Kd.S_drew));exact Kd.S_mono HO404.out (fun _ hk=>⟨hk.2,hk.1.2⟩)⟩,⟨by (with_reducible repeat (first|apply Kd.R_alloc|apply Kd.R_drewN|apply Kd.R_drew));exact Kd.R_mono HO397.out (fun _ hk=>hk.2)⟩,⟨by (with_reducible repeat (first|refine blk_drewN ?_ _|refine blk_drew ?_|refine blk_alloc ?_ _));exact BK381.out⟩,⟨by (with_reducible repeat (first|refine blk_drewN ?_ _|refine blk_drew ?_|refine blk_alloc ?_ _));exact BK398.out⟩,⟨by repeat (first|(with_reducible first|exact HB.out|apply below_alloc|apply pw_below_drewN|apply below_drew1|refine below_set ?_ GE381.out|refine below_set ?_ GE398.out)|exact HB.out)⟩⟩
    case rest =>
     clear HC25
     try clear c1
     try clear c2
     try clear p2
     try clear c3
     try clear c4
     try clear c4b0
     try clear c4b1
     try clear c5
     try clear c7
     try clear c7b0
     try clear c9
     try clear c10
     try clear c11
     try clear c12
     try clear c12b0
     try clear c13
     try clear c14
     try clear c15
     try clear c42
     try clear c50
     try clear c50b0
     try clear c50b1
     try clear c50b2
     try clear hcz14_0
     try clear hcz27_0
     try clear hcz30_0
     try clear hcz38_0
     try clear hcz43_0
     try clear hcz46_0
     try clear hcz9_0
     try clear hfz14_0
     try clear hfz27_0
     try clear hfz30_0
     try clear hfz38_0
     try clear hfz43_0
     try clear hfz46_0
     try clear hfz9_0
     obtain ⟨kq,x58_24,rfl,HA,HJ24,HO_11,HO_12,HO_399000,BK381,BK398,HB⟩:=hcut
     cases kq with
     | zero=>exact absurd HA.out (by simp [laws_FnExactIsNormal.j0])
     | succ kj24 =>
      have H:=HA.out
      clear HA
      simp only [laws_FnExactIsNormal.j0] at H
      by_cases c51:x58_24 = true
      ·subst c51
       have H1:(some false) = some r:=by rw [if_pos rfl] at H;exact H
       clear H
       have H:=H1
       clear H1
       obtain rfl:=Option.some.inj H
       go_wp2
       go_ret
       exact ⟨by first|rfl|(simp [errW_none,errW_some] <;> rfl)|(simp [*,errW_none,errW_some] <;> rfl),by repeat (first|(with_reducible first|exact HB.out|apply below_alloc|apply pw_below_drewN|apply below_drew1|refine below_set ?_ GE381.out|refine below_set ?_ GE398.out)|exact HB.out)⟩
      ·replace c51:=Bool.eq_false_iff.mpr c51
       subst c51
       have H1:((laws_toSign.f kj24 l0_0).bind fun t407=>((laws_eqSign.f kj24 t395 t407).bind fun t410=>(if t410 = true then ((laws_toIntS.f kj24 l1).bind fun t411=>((laws_eqIntS.f kj24 t399 t411).bind fun t414=>(if t414 = true then ((laws_toLitS.f kj24 l2).bind fun t415=>((laws_eqLitS.f kj24 t402 t415).bind fun t418=>(if t418 = true then (some true) else (some false)))) else (some false)))) else (some false)))) = some r:=by rw [if_neg (show ¬ (false = true) by decide)] at H;exact H
       clear H
       have H:=H1
       clear H1
       replace H:=Option.bind_eq_some_iff.mp H
       obtain ⟨t407,A520,H⟩:=H
       replace H:((laws_eqSign.f kj24 t395 t407).bind fun t410=>(if t410 = true then ((laws_toIntS.f kj24 l1).bind fun t411=>((laws_eqIntS.f kj24 t399 t411).bind fun t414=>(if t414 = true then ((laws_toLitS.f kj24 l2).bind fun t415=>((laws_eqLitS.f kj24 t402 t415).bind fun t418=>(if t418 = true then (some true) else (some false)))) else (some false)))) else (some false))) = some r:=H
       have A52:=Aside0.mk A520
       clear A520
       replace H:=Option.bind_eq_some_iff.mp H
       obtain ⟨t410,A530,H⟩:=H
       replace H:(if t410 = true then ((laws_toIntS.f kj24 l1).bind fun t411=>((laws_eqIntS.f kj24 t399 t411).bind fun t414=>(if t414 = true then ((laws_toLitS.f kj24 l2).bind fun t415=>((laws_eqLitS.f kj24 t402 t415).bind fun t418=>(if t418 = true then (some true) else (some false)))) else (some false)))) else (some false)) = some r:=H
       have A53:=Aside0.mk A530
       clear A530
       by_cases c54:t410 = true
       ·subst c54
        have H1:((laws_toIntS.f kj24 l1).bind fun t411=>((laws_eqIntS.f kj24 t399 t411).bind fun t414=>(if t414 = true then ((laws_toLitS.f kj24 l2).bind fun t415=>((laws_eqLitS.f kj24 t402 t415).bind fun t418=>(if t418 = true then (some true) else (some false)))) else (some false)))) = some r:=by rw [if_pos rfl] at H;exact H
        clear H
        have H:=H1
        clear H1
        replace H:=Option.bind_eq_some_iff.mp H
        obtain ⟨t411,A550,H⟩:=H
        replace H:((laws_eqIntS.f kj24 t399 t411).bind fun t414=>(if t414 = true then ((laws_toLitS.f kj24 l2).bind fun t415=>((laws_eqLitS.f kj24 t402 t415).bind fun t418=>(if t418 = true then (some true) else (some false)))) else (some false))) = some r:=H
        have A55:=Aside0.mk A550
        clear A550
        replace H:=Option.bind_eq_some_iff.mp H
        obtain ⟨t414,A560,H⟩:=H
        replace H:(if t414 = true then ((laws_toLitS.f kj24 l2).bind fun t415=>((laws_eqLitS.f kj24 t402 t415).bind fun t418=>(if t418 = true then (some true) else (some false)))) else (some false)) = some r:=H
        have A56:=Aside0.mk A560
        clear A560
        by_cases c57:t414 = true
        ·subst c57
         have H1:((laws_toLitS.f kj24 l2).bind fun t415=>((laws_eqLitS.f kj24 t402 t415).bind fun t418=>(if t418 = true then (some true) else (some false)))) = some r:=by rw [if_pos rfl] at H;exact H
         clear H
         have H:=H1
         clear H1
         replace H:=Option.bind_eq_some_iff.mp H
         obtain ⟨t415,A580,H⟩:=H
         replace H:((laws_eqLitS.f kj24 t402 t415).bind fun t418=>(if t418 = true then (some true) else (some false))) = some r:=H
         have A58:=Aside0.mk A580
         clear A580
         replace H:=Option.bind_eq_some_iff.mp H
         obtain ⟨t418,A590,H⟩:=H
         replace H:(if t418 = true then (some true) else (some false)) = some r:=H
         have A59:=Aside0.mk A590
         clear A590
         by_cases c60:t418 = true
         ·subst c60
          have H1:(some true) = some r:=by rw [if_pos rfl] at H;exact H
          clear H
          have H:=H1
          clear H1
          obtain rfl:=Option.some.inj H
          try go_wp2
          have n0_:=Aside0.mk (Kd.R_drew HO_11.out)
          have n1_:=Aside0.mk (Kd.S_drew HO_12.out)
          have n2_:=Aside0.mk (Kd.R_drew HO_399000.out)
          have n3_:=Aside0.mk (blk_drew BK381.out)
          have n4_:=Aside0.mk (blk_drew BK398.out)
          have n5_:=Aside0.mk (below_drew1 HB.out)
          clear HO_11
          clear HO_12
          clear HO_399000
          clear BK381
          clear BK398
          clear HB
          have HO_11:=n0_
          have HO_12:=n1_
          have HO_399000:=n2_
          have BK381:=n3_
          have BK398:=n4_
          have HB:=n5_
          clear n0_ n1_ n2_ n3_ n4_ n5_
          refine start_ (n:=5) (S:=fun w'=>w'.cell? ⟨gb398,0,none⟩ = some (.slice Ao41 t395.length co41) ∧ w'.cell? ⟨gb381,0,none⟩ = some (.slice A0_0 l0_0.length c0_0)) (ds:=[]) #[false,false,false,false,false] (by kernel_rfl) rfl rfl ⟨(blk_cell BK398.out 0).trans rfl,(blk_cell BK381.out 0).trans rfl⟩ (fun hHeld=>?_)
          generalize wc.drew = w61 at HO_11 HO_12 HO_399000 BK381 BK398 HB hHeld ⊢
          refine take_ (i:=0) (N:=some 59) (v:=?_) (a':=?_) #[true,false,false,false,false] rfl rfl (by kernel_rfl) (fun _ _ _ h=>h) (Or.inl ⟨by rfl,?_⟩) hHeld ?_ ?_
          rotate_left
          ·rintro w' ⟨s0,s1⟩
           go_simp
           with_reducible rfl
          rotate_left
          ·simp only [Act.put,List.setIfInBounds_toArray,List.set_cons_zero,List.set_cons_succ,i64_w,i32_w]
           rfl
          refine take_ (i:=1) (N:=some 60) (v:=?_) (a':=?_) #[true,true,false,false,false] rfl rfl (by kernel_rfl) (fun _ _ _ h=>h) (Or.inl ⟨by rfl,?_⟩) hHeld ?_ ?_
          rotate_left
          ·rintro w' ⟨s0,s1⟩
           go_simp
           with_reducible rfl
          rotate_left
          ·simp only [Act.put,List.setIfInBounds_toArray,List.set_cons_zero,List.set_cons_succ,i64_w,i32_w]
           rfl
          refine one_ (i:=2) (N:=some 61) #[true,true,true,false,false] rfl rfl (by kernel_rfl) (by decide) (fun K hK=>?_)
          refine goes_ Try.func12 (by kernel_rfl) rfl #[.agg #[.slice A0_0 l0_0.length c0_0]] (by rfl) rfl rfl (by (try simp only [List.map_toArray,List.map_cons,List.map_nil]);first|done|rfl|(simp only [List.length_drop,List.length_take];rfl)) ?_
          with_reducible refine (laws_toSign.calls kj24 _ _ l0_0 t407 _ ?side1 ?side2 A52.out).mono ?_
          (case side1=>repeat (first|exact (Kd.C_below HR0_0.out HB.out)|(with_reducible refine Kd.C_alloc ?_ _)|(with_reducible refine Kd.C_drewN ?_ _)|(with_reducible refine Kd.C_drew ?_)))
          (case side2=>exact HC0_0.out)
          rintro e w62 ⟨v408,rfl,ho0,hb⟩
          refine ⟨_,rfl,?_⟩
          have n0_:=Aside0.mk (Kd.R_elder' (by (with_reducible repeat (first|apply Kd.R_alloc|apply Kd.R_drewN|apply Kd.R_drew));exact HO_11.out) (Kd.R_base ho0) hb)
          have n1_:=Aside0.mk (Kd.S_elder' (by (with_reducible repeat (first|apply Kd.S_alloc|apply Kd.S_drewN|apply Kd.S_drew));exact HO_12.out) (Kd.R_base ho0) hb)
          have n2_:=Aside0.mk (Kd.R_elder' (by (with_reducible repeat (first|apply Kd.R_alloc|apply Kd.R_drewN|apply Kd.R_drew));exact HO_399000.out) (Kd.R_base ho0) hb)
          have n3_:=Aside0.mk (Kd.R_lower (Kd.R_new' (Kd.R_new' ho0 (Kd.R_lt (by (with_reducible repeat (first|apply Kd.R_alloc|apply Kd.R_drewN|apply Kd.R_drew));exact HO_11.out))) (Kd.R_lt (by (with_reducible repeat (first|apply Kd.R_alloc|apply Kd.R_drewN|apply Kd.R_drew));exact HO_399000.out))) (below_size (by repeat (first|(with_reducible first|exact HB.out|apply below_alloc|apply pw_below_drewN|apply below_drew1|refine below_set ?_ GE381.out|refine below_set ?_ GE398.out)|exact HB.out))))
          have n4_:=Aside0.mk (blk_below (g:=gb381) (o:=.cells #[.slice A0_0 l0_0.length c0_0] 24 (0,0)) (by (with_reducible repeat (first|refine blk_drewN ?_ _|refine blk_drew ?_|refine blk_alloc ?_ _));exact BK381.out) hb)
          have n5_:=Aside0.mk (blk_below (g:=gb398) (o:=.cells #[.slice Ao41 t395.length co41] 30 (0,0)) (by (with_reducible repeat (first|refine blk_drewN ?_ _|refine blk_drew ?_|refine blk_alloc ?_ _));exact BK398.out) hb)
          have n6_:=Aside0.mk (below_step (by repeat (first|(with_reducible first|exact HB.out|apply below_alloc|apply pw_below_drewN|apply below_drew1|refine below_set ?_ GE381.out|refine below_set ?_ GE398.out)|exact HB.out)) hb)
          clear HO_11
          clear HO_12
          clear HO_399000
          clear BK381
          clear BK398
          clear HB
          have HO_11:=n0_
          have HO_12:=n1_
          have HO_399000:=n2_
          have HO409:=n3_
          have BK381:=n4_
          have BK398:=n5_
          have HB:=n6_
          clear n0_ n1_ n2_ n3_ n4_ n5_ n6_
          (try clear hb)
          (try clear hb2)
          (try clear hk)
          (try clear hi)
          (try clear ho0)
          obtain ⟨Ao63,co63,eo63⟩:=Kd.R_slice HO409.out
          (first|subst eo63|(injection eo63 with f1_ f2_ f3_;have f4_:=f1_.symm;have f5_:=f3_.symm;clear f1_ f2_ f3_;subst f4_;subst f5_))
          refine hK.out _ _ ⟨(blk_cell BK398.out 0).trans rfl,(blk_cell BK381.out 0).trans rfl⟩ (fun hHeld=>?_)
          clear hK K
          refine norm_ (a':=?_) ?_ ?_
          rotate_left
          ·show Act.put _ (some 61) _ = _
           simp only [Act.put,List.setIfInBounds_toArray,List.set_cons_zero,List.set_cons_succ,i64_w,i32_w]
           rfl
          refine one_ (i:=3) (N:=some 62) #[true,true,true,true,false] rfl rfl (by kernel_rfl) (by decide) (fun K hK=>?_)
          refine goes_ Try.func16 (by kernel_rfl) rfl #[.agg #[.slice Ao41 t395.length co41],.agg #[.slice Ao63 t407.length co63]] (by rfl) rfl rfl (by (try simp only [List.map_toArray,List.map_cons,List.map_nil]);first|done|rfl|(simp only [List.length_drop,List.length_take];rfl)) ?_
          with_reducible refine (laws_eqSign.calls kj24 _ _ t395 _ _ t407 true _ ?side1 ?side2 ?side3 ?side4 A53.out).mono ?_
          (case side1=>repeat (first|exact (Kd.R_reads' HO_399000.out).2.2|(with_reducible refine Kd.C_alloc ?_ _)|(with_reducible refine Kd.C_drewN ?_ _)|(with_reducible refine Kd.C_drew ?_)))
          (case side2=>exact (Kd.R_reads' HO_399000.out).2.1)
          (case side3=>repeat (first|exact (Kd.R_reads' HO409.out).2.2|(with_reducible refine Kd.C_alloc ?_ _)|(with_reducible refine Kd.C_drewN ?_ _)|(with_reducible refine Kd.C_drew ?_)))
          (case side4=>exact (Kd.R_reads' HO409.out).2.1)
          rintro e w64 ⟨rfl,hb⟩
          refine ⟨_,rfl,?_⟩
          have n0_:=Aside0.mk (Kd.R_below (by (with_reducible repeat (first|apply Kd.R_alloc|apply Kd.R_drewN|apply Kd.R_drew));exact HO_11.out) hb)
          have n1_:=Aside0.mk (Kd.S_below (by (with_reducible repeat (first|apply Kd.S_alloc|apply Kd.S_drewN|apply Kd.S_drew));exact HO_12.out) hb)
          have n2_:=Aside0.mk (Kd.R_below (by (with_reducible repeat (first|apply Kd.R_alloc|apply Kd.R_drewN|apply Kd.R_drew));exact HO_399000.out) hb)
          have n3_:=Aside0.mk (Kd.R_below (by (with_reducible repeat (first|apply Kd.R_alloc|apply Kd.R_drewN|apply Kd.R_drew));exact HO409.out) hb)
          have n4_:=Aside0.mk (blk_below (g:=gb381) (o:=.cells #[.slice A0_0 l0_0.length c0_0] 24 (0,0)) (by (with_reducible repeat (first|refine blk_drewN ?_ _|refine blk_drew ?_|refine blk_alloc ?_ _));exact BK381.out) hb)
          have n5_:=Aside0.mk (blk_below (g:=gb398) (o:=.cells #[.slice Ao41 t395.length co41] 30 (0,0)) (by (with_reducible repeat (first|refine blk_drewN ?_ _|refine blk_drew ?_|refine blk_alloc ?_ _));exact BK398.out) hb)
          have n6_:=Aside0.mk (below_step (by repeat (first|(with_reducible first|exact HB.out|apply below_alloc|apply pw_below_drewN|apply below_drew1|refine below_set ?_ GE381.out|refine below_set ?_ GE398.out)|exact HB.out)) hb)
          clear HO_11
          clear HO_12
          clear HO_399000
          clear HO409
          clear BK381
          clear BK398
          clear HB
          have HO_11:=n0_
          have HO_12:=n1_
          have HO_399000:=n2_
          have HO409:=n3_
          have BK381:=n4_
          have BK398:=n5_
          have HB:=n6_
          clear n0_ n1_ n2_ n3_ n4_ n5_ n6_
          (try clear hb)
          (try clear hb2)
          (try clear hk)
          (try clear hi)
          refine hK.out _ _ ⟨(blk_cell BK398.out 0).trans rfl,(blk_cell BK381.out 0).trans rfl⟩ (fun hHeld=>?_)
          clear hK K
          refine norm_ (a':=?_) ?_ ?_
          rotate_left
          ·show Act.put _ (some 62) _ = _
           simp only [Act.put,List.setIfInBounds_toArray,List.set_cons_zero,List.set_cons_succ,i64_w,i32_w]
           rfl
          refine pure_ (i:=4) (N:=some 63) (v:=?_) (a':=?_) #[true,true,true,true,true] rfl rfl (by kernel_rfl) (fun _ _ _ h=>h) (Or.inl ⟨by rfl,?_⟩) ?_ ?_
          rotate_left
          ·intro w'
           go_simp
           with_reducible rfl
          rotate_left
          ·simp only [Act.put,List.setIfInBounds_toArray,List.set_cons_zero,List.set_cons_succ,i64_w,i32_w]
           rfl
          refine done_ (by kernel_rfl) ?_
          try go_wp2_with (first|((with_reducible refine gate_callee (f:=13) rfl ?_);refine goesL_ (some 66) rfl rfl Try.func13 (by kernel_rfl) rfl #[.slice A1 l1.length c1] rfl (by (try simp only [List.map_toArray,List.map_cons,List.map_nil]);first|done|rfl|(simp only [List.length_drop,List.length_take];rfl)) ?_;(with_reducible refine (laws_toIntS.calls kj24 _ _ l1 t411 _ ?side1 ?side2 A55.out).mono ?_);(case side1=>repeat (first|exact (Kd.C_below HR1.out HB.out)|(with_reducible refine Kd.C_alloc ?_ _)|(with_reducible refine Kd.C_drewN ?_ _)|(with_reducible refine Kd.C_drew ?_)));(case side2=>exact HC1.out);rintro e w65 ⟨v412,rfl,ho0,hb⟩;refine ⟨_,rfl,?_⟩;have n0_:=Aside0.mk (Kd.R_elder' (by (with_reducible repeat (first|apply Kd.R_alloc|apply Kd.R_drewN|apply Kd.R_drew));exact HO_11.out) (Kd.R_base ho0) hb);have n1_:=Aside0.mk (Kd.S_elder' (by (with_reducible repeat (first|apply Kd.S_alloc|apply Kd.S_drewN|apply Kd.S_drew));exact HO_12.out) (Kd.R_base ho0) hb);have n2_:=Aside0.mk (Kd.R_elder' (by (with_reducible repeat (first|apply Kd.R_alloc|apply Kd.R_drewN|apply Kd.R_drew));exact HO_399000.out) (Kd.R_base ho0) hb);have n3_:=Aside0.mk (Kd.R_elder' (by (with_reducible repeat (first|apply Kd.R_alloc|apply Kd.R_drewN|apply Kd.R_drew));exact HO409.out) (Kd.R_base ho0) hb);have n4_:=Aside0.mk (Kd.R_lower (Kd.R_new' (Kd.R_new' (Kd.R_new' ho0 (Kd.R_lt (by (with_reducible repeat (first|apply Kd.R_alloc|apply Kd.R_drewN|apply Kd.R_drew));exact HO_11.out))) (Kd.R_lt (by (with_reducible repeat (first|apply Kd.R_alloc|apply Kd.R_drewN|apply Kd.R_drew));exact HO_399000.out))) (Kd.R_lt (by (with_reducible repeat (first|apply Kd.R_alloc|apply Kd.R_drewN|apply Kd.R_drew));exact HO409.out))) (below_size (by repeat (first|(with_reducible first|exact HB.out|apply below_alloc|apply pw_below_drewN|apply below_drew1|refine below_set ?_ GE381.out|refine below_set ?_ GE398.out)|exact HB.out))));have n5_:=Aside0.mk (blk_below (g:=gb381) (o:=.cells #[.slice A0_0 l0_0.length c0_0] 24 (0,0)) (by (with_reducible repeat (first|refine blk_drewN ?_ _|refine blk_drew ?_|refine blk_alloc ?_ _));exact BK381.out) hb);have n6_:=Aside0.mk (blk_below (g:=gb398) (o:=.cells #[.slice Ao41 t395.length co41] 30 (0,0)) (by (with_reducible repeat (first|refine blk_drewN ?_ _|refine blk_drew ?_|refine blk_alloc ?_ _));exact BK398.out) hb);have n7_:=Aside0.mk (below_step (by repeat (first|(with_reducible first|exact HB.out|apply below_alloc|apply pw_below_drewN|apply below_drew1|refine below_set ?_ GE381.out|refine below_set ?_ GE398.out)|exact HB.out)) hb);clear HO_11;clear HO_12;clear HO_399000;clear HO409;clear BK381;clear BK398;clear HB;have HO_11:=n0_;have HO_12:=n1_;have HO_399000:=n2_;have HO409:=n3_;have HO413:=n4_;have BK381:=n5_;have BK398:=n6_;have HB:=n7_;clear n0_ n1_ n2_ n3_ n4_ n5_ n6_ n7_;(try clear hb);(try clear hb2);(try clear hk);(try clear hi);(try clear ho0);obtain ⟨Ao66,co66,eo66⟩:=Kd.R_slice HO413.out;subst eo66)|((with_reducible refine gate_callee (f:=17) rfl ?_);refine goesL_ (some 67) rfl rfl Try.func17 (by kernel_rfl) rfl #[.slice Ao47 t399.length co47,.slice Ao66 t411.length co66] rfl (by (try simp only [List.map_toArray,List.map_cons,List.map_nil]);first|done|rfl|(simp only [List.length_drop,List.length_take];rfl)) ?_;(with_reducible refine (laws_eqIntS.calls kj24 _ _ t399 _ _ t411 true _ ?side1 ?side2 ?side3 ?side4 A56.out).mono ?_);(case side1=>repeat (first|exact (Kd.R_reads' HO_11.out).2.2|(with_reducible refine Kd.C_alloc ?_ _)|(with_reducible refine Kd.C_drewN ?_ _)|(with_reducible refine Kd.C_drew ?_)));(case side2=>exact (Kd.R_reads' HO_11.out).2.1);(case side3=>repeat (first|exact (Kd.R_reads' HO413.out).2.2|(with_reducible refine Kd.C_alloc ?_ _)|(with_reducible refine Kd.C_drewN ?_ _)|(with_reducible refine Kd.C_drew ?_)));(case side4=>exact (Kd.R_reads' HO413.out).2.1);rintro e w' ⟨rfl,⟨nd,rfl⟩⟩;refine ⟨_,rfl,?_⟩)|((with_reducible refine gate_callee (f:=14) rfl ?_);refine goesL_ (some 71) rfl rfl Try.func14 (by kernel_rfl) rfl #[.slice A2 l2.length c2] rfl (by (try simp only [List.map_toArray,List.map_cons,List.map_nil]);first|done|rfl|(simp only [List.length_drop,List.length_take];rfl)) ?_;(with_reducible refine (laws_toLitS.calls kj24 _ _ l2 t415 _ ?side1 ?side2 A58.out).mono ?_);(case side1=>repeat (first|exact (Kd.C_below HR2.out (by repeat (first|(with_reducible first|exact HB.out|apply below_alloc|apply pw_below_drewN|apply below_drew1|refine below_set ?_ GE381.out|refine below_set ?_ GE398.out)|exact HB.out)))|(with_reducible refine Kd.C_alloc ?_ _)|(with_reducible refine Kd.C_drewN ?_ _)|(with_reducible refine Kd.C_drew ?_)));(case side2=>exact HC2.out);rintro e w67 ⟨v416,rfl,ho0,hb⟩;refine ⟨_,rfl,?_⟩;have n0_:=Aside0.mk (Kd.R_below (by (with_reducible repeat (first|apply Kd.R_alloc|apply Kd.R_drewN|apply Kd.R_drew));exact HO_11.out) hb);have n1_:=Aside0.mk (Kd.S_elder' (by (with_reducible repeat (first|apply Kd.S_alloc|apply Kd.S_drewN|apply Kd.S_drew));exact HO_12.out) (Kd.S_base ho0) hb);have n2_:=Aside0.mk (Kd.R_below (by (with_reducible repeat (first|apply Kd.R_alloc|apply Kd.R_drewN|apply Kd.R_drew));exact HO_399000.out) hb);have n3_:=Aside0.mk (Kd.R_below (by (with_reducible repeat (first|apply Kd.R_alloc|apply Kd.R_drewN|apply Kd.R_drew));exact HO409.out) hb);have n4_:=Aside0.mk (Kd.R_below (by (with_reducible repeat (first|apply Kd.R_alloc|apply Kd.R_drewN|apply Kd.R_drew));exact HO413.out) hb);have n5_:=Aside0.mk (Kd.S_lower (Kd.S_new' (Kd.S_new' (Kd.S_new' (Kd.S_new' (Kd.S_new' ho0 (Kd.R_lt (by (with_reducible repeat (first|apply Kd.R_alloc|apply Kd.R_drewN|apply Kd.R_drew));exact HO_11.out))) (Kd.S_lt (by (with_reducible repeat (first|apply Kd.S_alloc|apply Kd.S_drewN|apply Kd.S_drew));exact HO_12.out))) (Kd.R_lt (by (with_reducible repeat (first|apply Kd.R_alloc|apply Kd.R_drewN|apply Kd.R_drew));exact HO_399000.out))) (Kd.R_lt (by (with_reducible repeat (first|apply Kd.R_alloc|apply Kd.R_drewN|apply Kd.R_drew));exact HO409.out))) (Kd.R_lt (by (with_reducible repeat (first|apply Kd.R_alloc|apply Kd.R_drewN|apply Kd.R_drew));exact HO413.out))) (below_size (by repeat (first|(with_reducible first|exact HB.out|apply below_alloc|apply pw_below_drewN|apply below_drew1|refine below_set ?_ GE381.out|refine below_set ?_ GE398.out)|exact HB.out))));have n6_:=Aside0.mk (blk_below (g:=gb381) (o:=.cells #[.slice A0_0 l0_0.length c0_0] 24 (0,0)) (by (with_reducible repeat (first|refine blk_drewN ?_ _|refine blk_drew ?_|refine blk_alloc ?_ _));exact BK381.out) hb);have n7_:=Aside0.mk (blk_below (g:=gb398) (o:=.cells #[.slice Ao41 t395.length co41] 30 (0,0)) (by (with_reducible repeat (first|refine blk_drewN ?_ _|refine blk_drew ?_|refine blk_alloc ?_ _));exact BK398.out) hb);have n8_:=Aside0.mk (below_step (by repeat (first|(with_reducible first|exact HB.out|apply below_alloc|apply pw_below_drewN|apply below_drew1|refine below_set ?_ GE381.out|refine below_set ?_ GE398.out)|exact HB.out)) hb);clear HO_11;clear HO_12;clear HO_399000;clear HO409;clear HO413;clear BK381;clear BK398;clear HB;have HO_11:=n0_;have HO_12:=n1_;have HO_399000:=n2_;have HO409:=n3_;have HO413:=n4_;have HO417:=n5_;have BK381:=n6_;have BK398:=n7_;have HB:=n8_;clear n0_ n1_ n2_ n3_ n4_ n5_ n6_ n7_ n8_;(try clear hb);(try clear hb2);(try clear hk);(try clear hi);(try clear ho0);obtain ⟨Ao68,co68,eo68⟩:=Kd.S_slice HO417.out;subst eo68)|((with_reducible refine gate_callee (f:=18) rfl ?_);refine goesL_ (some 72) rfl rfl Try.func18 (by kernel_rfl) rfl #[.slice Ao48 t402.length co48,.slice Ao68 t415.length co68] rfl (by (try simp only [List.map_toArray,List.map_cons,List.map_nil]);first|done|rfl|(simp only [List.length_drop,List.length_take];rfl)) ?_;(with_reducible refine (laws_eqLitS.calls kj24 _ _ t402 _ _ t415 true _ ?side1 ?side2 ?side3 ?side4 A59.out).mono ?_);(case side1=>repeat (first|exact (Kd.S_reads' HO_12.out).2.2|(with_reducible refine Kd.C_alloc ?_ _)|(with_reducible refine Kd.C_drewN ?_ _)|(with_reducible refine Kd.C_drew ?_)));(case side2=>exact (Kd.S_reads' HO_12.out).2.1);(case side3=>repeat (first|exact (Kd.S_reads' HO417.out).2.2|(with_reducible refine Kd.C_alloc ?_ _)|(with_reducible refine Kd.C_drewN ?_ _)|(with_reducible refine Kd.C_drew ?_)));(case side4=>exact (Kd.S_reads' HO417.out).2.1);rintro e w69 ⟨rfl,hb⟩;refine ⟨_,rfl,?_⟩;have n0_:=Aside0.mk (Kd.R_below (by (with_reducible repeat (first|apply Kd.R_alloc|apply Kd.R_drewN|apply Kd.R_drew));exact HO_11.out) hb);have n1_:=Aside0.mk (Kd.S_below (by (with_reducible repeat (first|apply Kd.S_alloc|apply Kd.S_drewN|apply Kd.S_drew));exact HO_12.out) hb);have n2_:=Aside0.mk (Kd.R_below (by (with_reducible repeat (first|apply Kd.R_alloc|apply Kd.R_drewN|apply Kd.R_drew));exact HO_399000.out) hb);have n3_:=Aside0.mk (Kd.R_below (by (with_reducible repeat (first|apply Kd.R_alloc|apply Kd.R_drewN|apply Kd.R_drew));exact HO409.out) hb);have n4_:=Aside0.mk (Kd.R_below (by (with_reducible repeat (first|apply Kd.R_alloc|apply Kd.R_drewN|apply Kd.R_drew));exact HO413.out) hb);have n5_:=Aside0.mk (Kd.S_below (by (with_reducible repeat (first|apply Kd.S_alloc|apply Kd.S_drewN|apply Kd.S_drew));exact HO417.out) hb);have n6_:=Aside0.mk (blk_below (g:=gb381) (o:=.cells #[.slice A0_0 l0_0.length c0_0] 24 (0,0)) (by (with_reducible repeat (first|refine blk_drewN ?_ _|refine blk_drew ?_|refine blk_alloc ?_ _));exact BK381.out) hb);have n7_:=Aside0.mk (blk_below (g:=gb398) (o:=.cells #[.slice Ao41 t395.length co41] 30 (0,0)) (by (with_reducible repeat (first|refine blk_drewN ?_ _|refine blk_drew ?_|refine blk_alloc ?_ _));exact BK398.out) hb);have n8_:=Aside0.mk (below_step (by repeat (first|(with_reducible first|exact HB.out|apply below_alloc|apply pw_below_drewN|apply below_drew1|refine below_set ?_ GE381.out|refine below_set ?_ GE398.out)|exact HB.out)) hb);clear HO_11;clear HO_12;clear HO_399000;clear HO409;clear HO413;clear HO417;clear BK381;clear BK398;clear HB;have HO_11:=n0_;have HO_12:=n1_;have HO_399000:=n2_;have HO409:=n3_;have HO413:=n4_;have HO417:=n5_;have BK381:=n6_;have BK398:=n7_;have HB:=n8_;clear n0_ n1_ n2_ n3_ n4_ n5_ n6_ n7_ n8_;(try clear hb);(try clear hb2);(try clear hk);(try clear hi)))
          go_ret
          exact ⟨by first|rfl|(simp [errW_none,errW_some] <;> rfl)|(simp [*,errW_none,errW_some] <;> rfl),by repeat (first|(with_reducible first|exact HB.out|apply below_alloc|apply pw_below_drewN|apply below_drew1|refine below_set ?_ GE381.out|refine below_set ?_ GE398.out)|exact HB.out)⟩
         ·replace c60:=Bool.eq_false_iff.mpr c60
          subst c60
          have H1:(some false) = some r:=by rw [if_neg (show ¬ (false = true) by decide)] at H;exact H
          clear H
          have H:=H1
          clear H1
          obtain rfl:=Option.some.inj H
          try go_wp2
          have n0_:=Aside0.mk (Kd.R_drew HO_11.out)
          have n1_:=Aside0.mk (Kd.S_drew HO_12.out)
          have n2_:=Aside0.mk (Kd.R_drew HO_399000.out)
          have n3_:=Aside0.mk (blk_drew BK381.out)
          have n4_:=Aside0.mk (blk_drew BK398.out)
          have n5_:=Aside0.mk (below_drew1 HB.out)
          clear HO_11
          clear HO_12
          clear HO_399000
          clear BK381
          clear BK398
          clear HB
          have HO_11:=n0_
          have HO_12:=n1_
          have HO_399000:=n2_
          have BK381:=n3_
          have BK398:=n4_
          have HB:=n5_
          clear n0_ n1_ n2_ n3_ n4_ n5_
          refine start_ (n:=5) (S:=fun w'=>w'.cell? ⟨gb398,0,none⟩ = some (.slice Ao41 t395.length co41) ∧ w'.cell? ⟨gb381,0,none⟩ = some (.slice A0_0 l0_0.length c0_0)) (ds:=[]) #[false,false,false,false,false] (by kernel_rfl) rfl rfl ⟨(blk_cell BK398.out 0).trans rfl,(blk_cell BK381.out 0).trans rfl⟩ (fun hHeld=>?_)
          generalize wc.drew = w70 at HO_11 HO_12 HO_399000 BK381 BK398 HB hHeld ⊢
          refine take_ (i:=0) (N:=some 59) (v:=?_) (a':=?_) #[true,false,false,false,false] rfl rfl (by kernel_rfl) (fun _ _ _ h=>h) (Or.inl ⟨by rfl,?_⟩) hHeld ?_ ?_
          rotate_left
          ·rintro w' ⟨s0,s1⟩
           go_simp
           with_reducible rfl
          rotate_left
          ·simp only [Act.put,List.setIfInBounds_toArray,List.set_cons_zero,List.set_cons_succ,i64_w,i32_w]
           rfl
          refine take_ (i:=1) (N:=some 60) (v:=?_) (a':=?_) #[true,true,false,false,false] rfl rfl (by kernel_rfl) (fun _ _ _ h=>h) (Or.inl ⟨by rfl,?_⟩) hHeld ?_ ?_
          rotate_left
          ·rintro w' ⟨s0,s1⟩
           go_simp
           with_reducible rfl
          rotate_left
          ·simp only [Act.put,List.setIfInBounds_toArray,List.set_cons_zero,List.set_cons_succ,i64_w,i32_w]
           rfl
          refine one_ (i:=2) (N:=some 61) #[true,true,true,false,false] rfl rfl (by kernel_rfl) (by decide) (fun K hK=>?_)
          refine goes_ Try.func12 (by kernel_rfl) rfl #[.agg #[.slice A0_0 l0_0.length c0_0]] (by rfl) rfl rfl (by (try simp only [List.map_toArray,List.map_cons,List.map_nil]);first|done|rfl|(simp only [List.length_drop,List.length_take];rfl)) ?_
          with_reducible refine (laws_toSign.calls kj24 _ _ l0_0 t407 _ ?side1 ?side2 A52.out).mono ?_
          (case side1=>repeat (first|exact (Kd.C_below HR0_0.out HB.out)|(with_reducible refine Kd.C_alloc ?_ _)|(with_reducible refine Kd.C_drewN ?_ _)|(with_reducible refine Kd.C_drew ?_)))
          (case side2=>exact HC0_0.out)
          rintro e w71 ⟨v408,rfl,ho0,hb⟩
          refine ⟨_,rfl,?_⟩
          have n0_:=Aside0.mk (Kd.R_elder' (by (with_reducible repeat (first|apply Kd.R_alloc|apply Kd.R_drewN|apply Kd.R_drew));exact HO_11.out) (Kd.R_base ho0) hb)
          have n1_:=Aside0.mk (Kd.S_elder' (by (with_reducible repeat (first|apply Kd.S_alloc|apply Kd.S_drewN|apply Kd.S_drew));exact HO_12.out) (Kd.R_base ho0) hb)
          have n2_:=Aside0.mk (Kd.R_elder' (by (with_reducible repeat (first|apply Kd.R_alloc|apply Kd.R_drewN|apply Kd.R_drew));exact HO_399000.out) (Kd.R_base ho0) hb)
          have n3_:=Aside0.mk (Kd.R_lower (Kd.R_new' (Kd.R_new' ho0 (Kd.R_lt (by (with_reducible repeat (first|apply Kd.R_alloc|apply Kd.R_drewN|apply Kd.R_drew));exact HO_11.out))) (Kd.R_lt (by (with_reducible repeat (first|apply Kd.R_alloc|apply Kd.R_drewN|apply Kd.R_drew));exact HO_399000.out))) (below_size (by repeat (first|(with_reducible first|exact HB.out|apply below_alloc|apply pw_below_drewN|apply below_drew1|refine below_set ?_ GE381.out|refine below_set ?_ GE398.out)|exact HB.out))))
          have n4_:=Aside0.mk (blk_below (g:=gb381) (o:=.cells #[.slice A0_0 l0_0.length c0_0] 24 (0,0)) (by (with_reducible repeat (first|refine blk_drewN ?_ _|refine blk_drew ?_|refine blk_alloc ?_ _));exact BK381.out) hb)
          have n5_:=Aside0.mk (blk_below (g:=gb398) (o:=.cells #[.slice Ao41 t395.length co41] 30 (0,0)) (by (with_reducible repeat (first|refine blk_drewN ?_ _|refine blk_drew ?_|refine blk_alloc ?_ _));exact BK398.out) hb)
          have n6_:=Aside0.mk (below_step (by repeat (first|(with_reducible first|exact HB.out|apply below_alloc|apply pw_below_drewN|apply below_drew1|refine below_set ?_ GE381.out|refine below_set ?_ GE398.out)|exact HB.out)) hb)
          clear HO_11
          clear HO_12
          clear HO_399000
          clear BK381
          clear BK398
          clear HB
          have HO_11:=n0_
          have HO_12:=n1_
          have HO_399000:=n2_
          have HO409:=n3_
          have BK381:=n4_
          have BK398:=n5_
          have HB:=n6_
          clear n0_ n1_ n2_ n3_ n4_ n5_ n6_
          (try clear hb)
          (try clear hb2)
          (try clear hk)
          (try clear hi)
          (try clear ho0)
          obtain ⟨Ao72,co72,eo72⟩:=Kd.R_slice HO409.out
          (first|subst eo72|(injection eo72 with f1_ f2_ f3_;have f4_:=f1_.symm;have f5_:=f3_.symm;clear f1_ f2_ f3_;subst f4_;subst f5_))
          refine hK.out _ _ ⟨(blk_cell BK398.out 0).trans rfl,(blk_cell BK381.out 0).trans rfl⟩ (fun hHeld=>?_)
          clear hK K
          refine norm_ (a':=?_) ?_ ?_
          rotate_left
          ·show Act.put _ (some 61) _ = _
           simp only [Act.put,List.setIfInBounds_toArray,List.set_cons_zero,List.set_cons_succ,i64_w,i32_w]
           rfl
          refine one_ (i:=3) (N:=some 62) #[true,true,true,true,false] rfl rfl (by kernel_rfl) (by decide) (fun K hK=>?_)
          refine goes_ Try.func16 (by kernel_rfl) rfl #[.agg #[.slice Ao41 t395.length co41],.agg #[.slice Ao72 t407.length co72]] (by rfl) rfl rfl (by (try simp only [List.map_toArray,List.map_cons,List.map_nil]);first|done|rfl|(simp only [List.length_drop,List.length_take];rfl)) ?_
          with_reducible refine (laws_eqSign.calls kj24 _ _ t395 _ _ t407 true _ ?side1 ?side2 ?side3 ?side4 A53.out).mono ?_
          (case side1=>repeat (first|exact (Kd.R_reads' HO_399000.out).2.2|(with_reducible refine Kd.C_alloc ?_ _)|(with_reducible refine Kd.C_drewN ?_ _)|(with_reducible refine Kd.C_drew ?_)))
          (case side2=>exact (Kd.R_reads' HO_399000.out).2.1)
          (case side3=>repeat (first|exact (Kd.R_reads' HO409.out).2.2|(with_reducible refine Kd.C_alloc ?_ _)|(with_reducible refine Kd.C_drewN ?_ _)|(with_reducible refine Kd.C_drew ?_)))
          (case side4=>exact (Kd.R_reads' HO409.out).2.1)
          rintro e w73 ⟨rfl,hb⟩
          refine ⟨_,rfl,?_⟩
          have n0_:=Aside0.mk (Kd.R_below (by (with_reducible repeat (first|apply Kd.R_alloc|apply Kd.R_drewN|apply Kd.R_drew));exact HO_11.out) hb)
          have n1_:=Aside0.mk (Kd.S_below (by (with_reducible repeat (first|apply Kd.S_alloc|apply Kd.S_drewN|apply Kd.S_drew));exact HO_12.out) hb)
          have n2_:=Aside0.mk (Kd.R_below (by (with_reducible repeat (first|apply Kd.R_alloc|apply Kd.R_drewN|apply Kd.R_drew));exact HO_399000.out) hb)
          have n3_:=Aside0.mk (Kd.R_below (by (with_reducible repeat (first|apply Kd.R_alloc|apply Kd.R_drewN|apply Kd.R_drew));exact HO409.out) hb)
          have n4_:=Aside0.mk (blk_below (g:=gb381) (o:=.cells #[.slice A0_0 l0_0.length c0_0] 24 (0,0)) (by (with_reducible repeat (first|refine blk_drewN ?_ _|refine blk_drew ?_|refine blk_alloc ?_ _));exact BK381.out) hb)
          have n5_:=Aside0.mk (blk_below (g:=gb398) (o:=.cells #[.slice Ao41 t395.length co41] 30 (0,0)) (by (with_reducible repeat (first|refine blk_drewN ?_ _|refine blk_drew ?_|refine blk_alloc ?_ _));exact BK398.out) hb)
          have n6_:=Aside0.mk (below_step (by repeat (first|(with_reducible first|exact HB.out|apply below_alloc|apply pw_below_drewN|apply below_drew1|refine below_set ?_ GE381.out|refine below_set ?_ GE398.out)|exact HB.out)) hb)
          clear HO_11
          clear HO_12
          clear HO_399000
          clear HO409
          clear BK381
          clear BK398
          clear HB
          have HO_11:=n0_
          have HO_12:=n1_
          have HO_399000:=n2_
          have HO409:=n3_
          have BK381:=n4_
          have BK398:=n5_
          have HB:=n6_
          clear n0_ n1_ n2_ n3_ n4_ n5_ n6_
          (try clear hb)
          (try clear hb2)
          (try clear hk)
          (try clear hi)
          refine hK.out _ _ ⟨(blk_cell BK398.out 0).trans rfl,(blk_cell BK381.out 0).trans rfl⟩ (fun hHeld=>?_)
          clear hK K
          refine norm_ (a':=?_) ?_ ?_
          rotate_left
          ·show Act.put _ (some 62) _ = _
           simp only [Act.put,List.setIfInBounds_toArray,List.set_cons_zero,List.set_cons_succ,i64_w,i32_w]
           rfl
          refine pure_ (i:=4) (N:=some 63) (v:=?_) (a':=?_) #[true,true,true,true,true] rfl rfl (by kernel_rfl) (fun _ _ _ h=>h) (Or.inl ⟨by rfl,?_⟩) ?_ ?_
          rotate_left
          ·intro w'
           go_simp
           with_reducible rfl
          rotate_left
          ·simp only [Act.put,List.setIfInBounds_toArray,List.set_cons_zero,List.set_cons_succ,i64_w,i32_w]
           rfl
          refine done_ (by kernel_rfl) ?_
          try go_wp2_with (first|((with_reducible refine gate_callee (f:=13) rfl ?_);refine goesL_ (some 66) rfl rfl Try.func13 (by kernel_rfl) rfl #[.slice A1 l1.length c1] rfl (by (try simp only [List.map_toArray,List.map_cons,List.map_nil]);first|done|rfl|(simp only [List.length_drop,List.length_take];rfl)) ?_;(with_reducible refine (laws_toIntS.calls kj24 _ _ l1 t411 _ ?side1 ?side2 A55.out).mono ?_);(case side1=>repeat (first|exact (Kd.C_below HR1.out HB.out)|(with_reducible refine Kd.C_alloc ?_ _)|(with_reducible refine Kd.C_drewN ?_ _)|(with_reducible refine Kd.C_drew ?_)));(case side2=>exact HC1.out);rintro e w74 ⟨v412,rfl,ho0,hb⟩;refine ⟨_,rfl,?_⟩;have n0_:=Aside0.mk (Kd.R_elder' (by (with_reducible repeat (first|apply Kd.R_alloc|apply Kd.R_drewN|apply Kd.R_drew));exact HO_11.out) (Kd.R_base ho0) hb);have n1_:=Aside0.mk (Kd.S_elder' (by (with_reducible repeat (first|apply Kd.S_alloc|apply Kd.S_drewN|apply Kd.S_drew));exact HO_12.out) (Kd.R_base ho0) hb);have n2_:=Aside0.mk (Kd.R_elder' (by (with_reducible repeat (first|apply Kd.R_alloc|apply Kd.R_drewN|apply Kd.R_drew));exact HO_399000.out) (Kd.R_base ho0) hb);have n3_:=Aside0.mk (Kd.R_elder' (by (with_reducible repeat (first|apply Kd.R_alloc|apply Kd.R_drewN|apply Kd.R_drew));exact HO409.out) (Kd.R_base ho0) hb);have n4_:=Aside0.mk (Kd.R_lower (Kd.R_new' (Kd.R_new' (Kd.R_new' ho0 (Kd.R_lt (by (with_reducible repeat (first|apply Kd.R_alloc|apply Kd.R_drewN|apply Kd.R_drew));exact HO_11.out))) (Kd.R_lt (by (with_reducible repeat (first|apply Kd.R_alloc|apply Kd.R_drewN|apply Kd.R_drew));exact HO_399000.out))) (Kd.R_lt (by (with_reducible repeat (first|apply Kd.R_alloc|apply Kd.R_drewN|apply Kd.R_drew));exact HO409.out))) (below_size (by repeat (first|(with_reducible first|exact HB.out|apply below_alloc|apply pw_below_drewN|apply below_drew1|refine below_set ?_ GE381.out|refine below_set ?_ GE398.out)|exact HB.out))));have n5_:=Aside0.mk (blk_below (g:=gb381) (o:=.cells #[.slice A0_0 l0_0.length c0_0] 24 (0,0)) (by (with_reducible repeat (first|refine blk_drewN ?_ _|refine blk_drew ?_|refine blk_alloc ?_ _));exact BK381.out) hb);have n6_:=Aside0.mk (blk_below (g:=gb398) (o:=.cells #[.slice Ao41 t395.length co41] 30 (0,0)) (by (with_reducible repeat (first|refine blk_drewN ?_ _|refine blk_drew ?_|refine blk_alloc ?_ _));exact BK398.out) hb);have n7_:=Aside0.mk (below_step (by repeat (first|(with_reducible first|exact HB.out|apply below_alloc|apply pw_below_drewN|apply below_drew1|refine below_set ?_ GE381.out|refine below_set ?_ GE398.out)|exact HB.out)) hb);clear HO_11;clear HO_12;clear HO_399000;clear HO409;clear BK381;clear BK398;clear HB;have HO_11:=n0_;have HO_12:=n1_;have HO_399000:=n2_;have HO409:=n3_;have HO413:=n4_;have BK381:=n5_;have BK398:=n6_;have HB:=n7_;clear n0_ n1_ n2_ n3_ n4_ n5_ n6_ n7_;(try clear hb);(try clear hb2);(try clear hk);(try clear hi);(try clear ho0);obtain ⟨Ao75,co75,eo75⟩:=Kd.R_slice HO413.out;subst eo75)|((with_reducible refine gate_callee (f:=17) rfl ?_);refine goesL_ (some 67) rfl rfl Try.func17 (by kernel_rfl) rfl #[.slice Ao47 t399.length co47,.slice Ao75 t411.length co75] rfl (by (try simp only [List.map_toArray,List.map_cons,List.map_nil]);first|done|rfl|(simp only [List.length_drop,List.length_take];rfl)) ?_;(with_reducible refine (laws_eqIntS.calls kj24 _ _ t399 _ _ t411 true _ ?side1 ?side2 ?side3 ?side4 A56.out).mono ?_);(case side1=>repeat (first|exact (Kd.R_reads' HO_11.out).2.2|(with_reducible refine Kd.C_alloc ?_ _)|(with_reducible refine Kd.C_drewN ?_ _)|(with_reducible refine Kd.C_drew ?_)));(case side2=>exact (Kd.R_reads' HO_11.out).2.1);(case side3=>repeat (first|exact (Kd.R_reads' HO413.out).2.2|(with_reducible refine Kd.C_alloc ?_ _)|(with_reducible refine Kd.C_drewN ?_ _)|(with_reducible refine Kd.C_drew ?_)));(case side4=>exact (Kd.R_reads' HO413.out).2.1);rintro e w' ⟨rfl,⟨nd,rfl⟩⟩;refine ⟨_,rfl,?_⟩)|((with_reducible refine gate_callee (f:=14) rfl ?_);refine goesL_ (some 71) rfl rfl Try.func14 (by kernel_rfl) rfl #[.slice A2 l2.length c2] rfl (by (try simp only [List.map_toArray,List.map_cons,List.map_nil]);first|done|rfl|(simp only [List.length_drop,List.length_take];rfl)) ?_;(with_reducible refine (laws_toLitS.calls kj24 _ _ l2 t415 _ ?side1 ?side2 A58.out).mono ?_);(case side1=>repeat (first|exact (Kd.C_below HR2.out (by repeat (first|(with_reducible first|exact HB.out|apply below_alloc|apply pw_below_drewN|apply below_drew1|refine below_set ?_ GE381.out|refine below_set ?_ GE398.out)|exact HB.out)))|(with_reducible refine Kd.C_alloc ?_ _)|(with_reducible refine Kd.C_drewN ?_ _)|(with_reducible refine Kd.C_drew ?_)));(case side2=>exact HC2.out);rintro e w76 ⟨v416,rfl,ho0,hb⟩;refine ⟨_,rfl,?_⟩;have n0_:=Aside0.mk (Kd.R_below (by (with_reducible repeat (first|apply Kd.R_alloc|apply Kd.R_drewN|apply Kd.R_drew));exact HO_11.out) hb);have n1_:=Aside0.mk (Kd.S_elder' (by (with_reducible repeat (first|apply Kd.S_alloc|apply Kd.S_drewN|apply Kd.S_drew));exact HO_12.out) (Kd.S_base ho0) hb);have n2_:=Aside0.mk (Kd.R_below (by (with_reducible repeat (first|apply Kd.R_alloc|apply Kd.R_drewN|apply Kd.R_drew));exact HO_399000.out) hb);have n3_:=Aside0.mk (Kd.R_below (by (with_reducible repeat (first|apply Kd.R_alloc|apply Kd.R_drewN|apply Kd.R_drew));exact HO409.out) hb);have n4_:=Aside0.mk (Kd.R_below (by (with_reducible repeat (first|apply Kd.R_alloc|apply Kd.R_drewN|apply Kd.R_drew));exact HO413.out) hb);have n5_:=Aside0.mk (Kd.S_lower (Kd.S_new' (Kd.S_new' (Kd.S_new' (Kd.S_new' (Kd.S_new' ho0 (Kd.R_lt (by (with_reducible repeat (first|apply Kd.R_alloc|apply Kd.R_drewN|apply Kd.R_drew));exact HO_11.out))) (Kd.S_lt (by (with_reducible repeat (first|apply Kd.S_alloc|apply Kd.S_drewN|apply Kd.S_drew));exact HO_12.out))) (Kd.R_lt (by (with_reducible repeat (first|apply Kd.R_alloc|apply Kd.R_drewN|apply Kd.R_drew));exact HO_399000.out))) (Kd.R_lt (by (with_reducible repeat (first|apply Kd.R_alloc|apply Kd.R_drewN|apply Kd.R_drew));exact HO409.out))) (Kd.R_lt (by (with_reducible repeat (first|apply Kd.R_alloc|apply Kd.R_drewN|apply Kd.R_drew));exact HO413.out))) (below_size (by repeat (first|(with_reducible first|exact HB.out|apply below_alloc|apply pw_below_drewN|apply below_drew1|refine below_set ?_ GE381.out|refine below_set ?_ GE398.out)|exact HB.out))));have n6_:=Aside0.mk (blk_below (g:=gb381) (o:=.cells #[.slice A0_0 l0_0.length c0_0] 24 (0,0)) (by (with_reducible repeat (first|refine blk_drewN ?_ _|refine blk_drew ?_|refine blk_alloc ?_ _));exact BK381.out) hb);have n7_:=Aside0.mk (blk_below (g:=gb398) (o:=.cells #[.slice Ao41 t395.length co41] 30 (0,0)) (by (with_reducible repeat (first|refine blk_drewN ?_ _|refine blk_drew ?_|refine blk_alloc ?_ _));exact BK398.out) hb);have n8_:=Aside0.mk (below_step (by repeat (first|(with_reducible first|exact HB.out|apply below_alloc|apply pw_below_drewN|apply below_drew1|refine below_set ?_ GE381.out|refine below_set ?_ GE398.out)|exact HB.out)) hb);clear HO_11;clear HO_12;clear HO_399000;clear HO409;clear HO413;clear BK381;clear BK398;clear HB;have HO_11:=n0_;have HO_12:=n1_;have HO_399000:=n2_;have HO409:=n3_;have HO413:=n4_;have HO417:=n5_;have BK381:=n6_;have BK398:=n7_;have HB:=n8_;clear n0_ n1_ n2_ n3_ n4_ n5_ n6_ n7_ n8_;(try clear hb);(try clear hb2);(try clear hk);(try clear hi);(try clear ho0);obtain ⟨Ao77,co77,eo77⟩:=Kd.S_slice HO417.out;subst eo77)|((with_reducible refine gate_callee (f:=18) rfl ?_);refine goesL_ (some 72) rfl rfl Try.func18 (by kernel_rfl) rfl #[.slice Ao48 t402.length co48,.slice Ao77 t415.length co77] rfl (by (try simp only [List.map_toArray,List.map_cons,List.map_nil]);first|done|rfl|(simp only [List.length_drop,List.length_take];rfl)) ?_;(with_reducible refine (laws_eqLitS.calls kj24 _ _ t402 _ _ t415 false _ ?side1 ?side2 ?side3 ?side4 A59.out).mono ?_);(case side1=>repeat (first|exact (Kd.S_reads' HO_12.out).2.2|(with_reducible refine Kd.C_alloc ?_ _)|(with_reducible refine Kd.C_drewN ?_ _)|(with_reducible refine Kd.C_drew ?_)));(case side2=>exact (Kd.S_reads' HO_12.out).2.1);(case side3=>repeat (first|exact (Kd.S_reads' HO417.out).2.2|(with_reducible refine Kd.C_alloc ?_ _)|(with_reducible refine Kd.C_drewN ?_ _)|(with_reducible refine Kd.C_drew ?_)));(case side4=>exact (Kd.S_reads' HO417.out).2.1);rintro e w78 ⟨rfl,hb⟩;refine ⟨_,rfl,?_⟩;have n0_:=Aside0.mk (Kd.R_below (by (with_reducible repeat (first|apply Kd.R_alloc|apply Kd.R_drewN|apply Kd.R_drew));exact HO_11.out) hb);have n1_:=Aside0.mk (Kd.S_below (by (with_reducible repeat (first|apply Kd.S_alloc|apply Kd.S_drewN|apply Kd.S_drew));exact HO_12.out) hb);have n2_:=Aside0.mk (Kd.R_below (by (with_reducible repeat (first|apply Kd.R_alloc|apply Kd.R_drewN|apply Kd.R_drew));exact HO_399000.out) hb);have n3_:=Aside0.mk (Kd.R_below (by (with_reducible repeat (first|apply Kd.R_alloc|apply Kd.R_drewN|apply Kd.R_drew));exact HO409.out) hb);have n4_:=Aside0.mk (Kd.R_below (by (with_reducible repeat (first|apply Kd.R_alloc|apply Kd.R_drewN|apply Kd.R_drew));exact HO413.out) hb);have n5_:=Aside0.mk (Kd.S_below (by (with_reducible repeat (first|apply Kd.S_alloc|apply Kd.S_drewN|apply Kd.S_drew));exact HO417.out) hb);have n6_:=Aside0.mk (blk_below (g:=gb381) (o:=.cells #[.slice A0_0 l0_0.length c0_0] 24 (0,0)) (by (with_reducible repeat (first|refine blk_drewN ?_ _|refine blk_drew ?_|refine blk_alloc ?_ _));exact BK381.out) hb);have n7_:=Aside0.mk (blk_below (g:=gb398) (o:=.cells #[.slice Ao41 t395.length co41] 30 (0,0)) (by (with_reducible repeat (first|refine blk_drewN ?_ _|refine blk_drew ?_|refine blk_alloc ?_ _));exact BK398.out) hb);have n8_:=Aside0.mk (below_step (by repeat (first|(with_reducible first|exact HB.out|apply below_alloc|apply pw_below_drewN|apply below_drew1|refine below_set ?_ GE381.out|refine below_set ?_ GE398.out)|exact HB.out)) hb);clear HO_11;clear HO_12;clear HO_399000;clear HO409;clear HO413;clear HO417;clear BK381;clear BK398;clear HB;have HO_11:=n0_;have HO_12:=n1_;have HO_399000:=n2_;have HO409:=n3_;have HO413:=n4_;have HO417:=n5_;have BK381:=n6_;have BK398:=n7_;have HB:=n8_;clear n0_ n1_ n2_ n3_ n4_ n5_ n6_ n7_ n8_;(try clear hb);(try clear hb2);(try clear hk);(try clear hi)))
          go_ret
          exact ⟨by first|rfl|(simp [errW_none,errW_some] <;> rfl)|(simp [*,errW_none,errW_some] <;> rfl),by repeat (first|(with_reducible first|exact HB.out|apply below_alloc|apply pw_below_drewN|apply below_drew1|refine below_set ?_ GE381.out|refine below_set ?_ GE398.out)|exact HB.out)⟩
        ·replace c57:=Bool.eq_false_iff.mpr c57
         subst c57
         have H1:(some false) = some r:=by rw [if_neg (show ¬ (false = true) by decide)] at H;exact H
         clear H
         have H:=H1
         clear H1
         obtain rfl:=Option.some.inj H
         try go_wp2
         have n0_:=Aside0.mk (Kd.R_drew HO_11.out)
         have n1_:=Aside0.mk (Kd.S_drew HO_12.out)
         have n2_:=Aside0.mk (Kd.R_drew HO_399000.out)
         have n3_:=Aside0.mk (blk_drew BK381.out)
         have n4_:=Aside0.mk (blk_drew BK398.out)
         have n5_:=Aside0.mk (below_drew1 HB.out)
         clear HO_11
         clear HO_12
         clear HO_399000
         clear BK381
         clear BK398
         clear HB
         have HO_11:=n0_
         have HO_12:=n1_
         have HO_399000:=n2_
         have BK381:=n3_
         have BK398:=n4_
         have HB:=n5_
         clear n0_ n1_ n2_ n3_ n4_ n5_
         refine start_ (n:=5) (S:=fun w'=>w'.cell? ⟨gb398,0,none⟩ = some (.slice Ao41 t395.length co41) ∧ w'.cell? ⟨gb381,0,none⟩ = some (.slice A0_0 l0_0.length c0_0)) (ds:=[]) #[false,false,false,false,false] (by kernel_rfl) rfl rfl ⟨(blk_cell BK398.out 0).trans rfl,(blk_cell BK381.out 0).trans rfl⟩ (fun hHeld=>?_)
         generalize wc.drew = w79 at HO_11 HO_12 HO_399000 BK381 BK398 HB hHeld ⊢
         refine take_ (i:=0) (N:=some 59) (v:=?_) (a':=?_) #[true,false,false,false,false] rfl rfl (by kernel_rfl) (fun _ _ _ h=>h) (Or.inl ⟨by rfl,?_⟩) hHeld ?_ ?_
         rotate_left
         ·rintro w' ⟨s0,s1⟩
          go_simp
          with_reducible rfl
         rotate_left
         ·simp only [Act.put,List.setIfInBounds_toArray,List.set_cons_zero,List.set_cons_succ,i64_w,i32_w]
          rfl
         refine take_ (i:=1) (N:=some 60) (v:=?_) (a':=?_) #[true,true,false,false,false] rfl rfl (by kernel_rfl) (fun _ _ _ h=>h) (Or.inl ⟨by rfl,?_⟩) hHeld ?_ ?_
         rotate_left
         ·rintro w' ⟨s0,s1⟩
          go_simp
          with_reducible rfl
         rotate_left
         ·simp only [Act.put,List.setIfInBounds_toArray,List.set_cons_zero,List.set_cons_succ,i64_w,i32_w]
          rfl
         refine one_ (i:=2) (N:=some 61) #[true,true,true,false,false] rfl rfl (by kernel_rfl) (by decide) (fun K hK=>?_)
         refine goes_ Try.func12 (by kernel_rfl) rfl #[.agg #[.slice A0_0 l0_0.length c0_0]] (by rfl) rfl rfl (by (try simp only [List.map_toArray,List.map_cons,List.map_nil]);first|done|rfl|(simp only [List.length_drop,List.length_take];rfl)) ?_
         with_reducible refine (laws_toSign.calls kj24 _ _ l0_0 t407 _ ?side1 ?side2 A52.out).mono ?_
         (case side1=>repeat (first|exact (Kd.C_below HR0_0.out HB.out)|(with_reducible refine Kd.C_alloc ?_ _)|(with_reducible refine Kd.C_drewN ?_ _)|(with_reducible refine Kd.C_drew ?_)))
         (case side2=>exact HC0_0.out)
         rintro e w80 ⟨v408,rfl,ho0,hb⟩
         refine ⟨_,rfl,?_⟩
         have n0_:=Aside0.mk (Kd.R_elder' (by (with_reducible repeat (first|apply Kd.R_alloc|apply Kd.R_drewN|apply Kd.R_drew));exact HO_11.out) (Kd.R_base ho0) hb)
         have n1_:=Aside0.mk (Kd.S_elder' (by (with_reducible repeat (first|apply Kd.S_alloc|apply Kd.S_drewN|apply Kd.S_drew));exact HO_12.out) (Kd.R_base ho0) hb)
         have n2_:=Aside0.mk (Kd.R_elder' (by (with_reducible repeat (first|apply Kd.R_alloc|apply Kd.R_drewN|apply Kd.R_drew));exact HO_399000.out) (Kd.R_base ho0) hb)
         have n3_:=Aside0.mk (Kd.R_lower (Kd.R_new' (Kd.R_new' ho0 (Kd.R_lt (by (with_reducible repeat (first|apply Kd.R_alloc|apply Kd.R_drewN|apply Kd.R_drew));exact HO_11.out))) (Kd.R_lt (by (with_reducible repeat (first|apply Kd.R_alloc|apply Kd.R_drewN|apply Kd.R_drew));exact HO_399000.out))) (below_size (by repeat (first|(with_reducible first|exact HB.out|apply below_alloc|apply pw_below_drewN|apply below_drew1|refine below_set ?_ GE381.out|refine below_set ?_ GE398.out)|exact HB.out))))
         have n4_:=Aside0.mk (blk_below (g:=gb381) (o:=.cells #[.slice A0_0 l0_0.length c0_0] 24 (0,0)) (by (with_reducible repeat (first|refine blk_drewN ?_ _|refine blk_drew ?_|refine blk_alloc ?_ _));exact BK381.out) hb)
         have n5_:=Aside0.mk (blk_below (g:=gb398) (o:=.cells #[.slice Ao41 t395.length co41] 30 (0,0)) (by (with_reducible repeat (first|refine blk_drewN ?_ _|refine blk_drew ?_|refine blk_alloc ?_ _));exact BK398.out) hb)
         have n6_:=Aside0.mk (below_step (by repeat (first|(with_reducible first|exact HB.out|apply below_alloc|apply pw_below_drewN|apply below_drew1|refine below_set ?_ GE381.out|refine below_set ?_ GE398.out)|exact HB.out)) hb)
         clear HO_11
         clear HO_12
         clear HO_399000
         clear BK381
         clear BK398
         clear HB
         have HO_11:=n0_
         have HO_12:=n1_
         have HO_399000:=n2_
         have HO409:=n3_
         have BK381:=n4_
         have BK398:=n5_
         have HB:=n6_
         clear n0_ n1_ n2_ n3_ n4_ n5_ n6_
         (try clear hb)
         (try clear hb2)
         (try clear hk)
         (try clear hi)
         (try clear ho0)
         obtain ⟨Ao81,co81,eo81⟩:=Kd.R_slice HO409.out
         (first|subst eo81|(injection eo81 with f1_ f2_ f3_;have f4_:=f1_.symm;have f5_:=f3_.symm;clear f1_ f2_ f3_;subst f4_;subst f5_))
         refine hK.out _ _ ⟨(blk_cell BK398.out 0).trans rfl,(blk_cell BK381.out 0).trans rfl⟩ (fun hHeld=>?_)
         clear hK K
         refine norm_ (a':=?_) ?_ ?_
         rotate_left
         ·show Act.put _ (some 61) _ = _
          simp only [Act.put,List.setIfInBounds_toArray,List.set_cons_zero,List.set_cons_succ,i64_w,i32_w]
          rfl
         refine one_ (i:=3) (N:=some 62) #[true,true,true,true,false] rfl rfl (by kernel_rfl) (by decide) (fun K hK=>?_)
         refine goes_ Try.func16 (by kernel_rfl) rfl #[.agg #[.slice Ao41 t395.length co41],.agg #[.slice Ao81 t407.length co81]] (by rfl) rfl rfl (by (try simp only [List.map_toArray,List.map_cons,List.map_nil]);first|done|rfl|(simp only [List.length_drop,List.length_take];rfl)) ?_
         with_reducible refine (laws_eqSign.calls kj24 _ _ t395 _ _ t407 true _ ?side1 ?side2 ?side3 ?side4 A53.out).mono ?_
         (case side1=>repeat (first|exact (Kd.R_reads' HO_399000.out).2.2|(with_reducible refine Kd.C_alloc ?_ _)|(with_reducible refine Kd.C_drewN ?_ _)|(with_reducible refine Kd.C_drew ?_)))
         (case side2=>exact (Kd.R_reads' HO_399000.out).2.1)
         (case side3=>repeat (first|exact (Kd.R_reads' HO409.out).2.2|(with_reducible refine Kd.C_alloc ?_ _)|(with_reducible refine Kd.C_drewN ?_ _)|(with_reducible refine Kd.C_drew ?_)))
         (case side4=>exact (Kd.R_reads' HO409.out).2.1)
         rintro e w82 ⟨rfl,hb⟩
         refine ⟨_,rfl,?_⟩
         have n0_:=Aside0.mk (Kd.R_below (by (with_reducible repeat (first|apply Kd.R_alloc|apply Kd.R_drewN|apply Kd.R_drew));exact HO_11.out) hb)
         have n1_:=Aside0.mk (Kd.S_below (by (with_reducible repeat (first|apply Kd.S_alloc|apply Kd.S_drewN|apply Kd.S_drew));exact HO_12.out) hb)
         have n2_:=Aside0.mk (Kd.R_below (by (with_reducible repeat (first|apply Kd.R_alloc|apply Kd.R_drewN|apply Kd.R_drew));exact HO_399000.out) hb)
         have n3_:=Aside0.mk (Kd.R_below (by (with_reducible repeat (first|apply Kd.R_alloc|apply Kd.R_drewN|apply Kd.R_drew));exact HO409.out) hb)
         have n4_:=Aside0.mk (blk_below (g:=gb381) (o:=.cells #[.slice A0_0 l0_0.length c0_0] 24 (0,0)) (by (with_reducible repeat (first|refine blk_drewN ?_ _|refine blk_drew ?_|refine blk_alloc ?_ _));exact BK381.out) hb)
         have n5_:=Aside0.mk (blk_below (g:=gb398) (o:=.cells #[.slice Ao41 t395.length co41] 30 (0,0)) (by (with_reducible repeat (first|refine blk_drewN ?_ _|refine blk_drew ?_|refine blk_alloc ?_ _));exact BK398.out) hb)
         have n6_:=Aside0.mk (below_step (by repeat (first|(with_reducible first|exact HB.out|apply below_alloc|apply pw_below_drewN|apply below_drew1|refine below_set ?_ GE381.out|refine below_set ?_ GE398.out)|exact HB.out)) hb)
         clear HO_11
         clear HO_12
         clear HO_399000
         clear HO409
         clear BK381
         clear BK398
         clear HB
         have HO_11:=n0_
         have HO_12:=n1_
         have HO_399000:=n2_
         have HO409:=n3_
         have BK381:=n4_
         have BK398:=n5_
         have HB:=n6_
         clear n0_ n1_ n2_ n3_ n4_ n5_ n6_
         (try clear hb)
         (try clear hb2)
         (try clear hk)
         (try clear hi)
         refine hK.out _ _ ⟨(blk_cell BK398.out 0).trans rfl,(blk_cell BK381.out 0).trans rfl⟩ (fun hHeld=>?_)
         clear hK K
         refine norm_ (a':=?_) ?_ ?_
         rotate_left
         ·show Act.put _ (some 62) _ = _
          simp only [Act.put,List.setIfInBounds_toArray,List.set_cons_zero,List.set_cons_succ,i64_w,i32_w]
          rfl
         refine pure_ (i:=4) (N:=some 63) (v:=?_) (a':=?_) #[true,true,true,true,true] rfl rfl (by kernel_rfl) (fun _ _ _ h=>h) (Or.inl ⟨by rfl,?_⟩) ?_ ?_
         rotate_left
         ·intro w'
          go_simp
          with_reducible rfl
         rotate_left
         ·simp only [Act.put,List.setIfInBounds_toArray,List.set_cons_zero,List.set_cons_succ,i64_w,i32_w]
          rfl
         refine done_ (by kernel_rfl) ?_
         try go_wp2_with (first|((with_reducible refine gate_callee (f:=13) rfl ?_);refine goesL_ (some 66) rfl rfl Try.func13 (by kernel_rfl) rfl #[.slice A1 l1.length c1] rfl (by (try simp only [List.map_toArray,List.map_cons,List.map_nil]);first|done|rfl|(simp only [List.length_drop,List.length_take];rfl)) ?_;(with_reducible refine (laws_toIntS.calls kj24 _ _ l1 t411 _ ?side1 ?side2 A55.out).mono ?_);(case side1=>repeat (first|exact (Kd.C_below HR1.out HB.out)|(with_reducible refine Kd.C_alloc ?_ _)|(with_reducible refine Kd.C_drewN ?_ _)|(with_reducible refine Kd.C_drew ?_)));(case side2=>exact HC1.out);rintro e w83 ⟨v412,rfl,ho0,hb⟩;refine ⟨_,rfl,?_⟩;have n0_:=Aside0.mk (Kd.R_elder' (by (with_reducible repeat (first|apply Kd.R_alloc|apply Kd.R_drewN|apply Kd.R_drew));exact HO_11.out) (Kd.R_base ho0) hb);have n1_:=Aside0.mk (Kd.S_elder' (by (with_reducible repeat (first|apply Kd.S_alloc|apply Kd.S_drewN|apply Kd.S_drew));exact HO_12.out) (Kd.R_base ho0) hb);have n2_:=Aside0.mk (Kd.R_elder' (by (with_reducible repeat (first|apply Kd.R_alloc|apply Kd.R_drewN|apply Kd.R_drew));exact HO_399000.out) (Kd.R_base ho0) hb);have n3_:=Aside0.mk (Kd.R_elder' (by (with_reducible repeat (first|apply Kd.R_alloc|apply Kd.R_drewN|apply Kd.R_drew));exact HO409.out) (Kd.R_base ho0) hb);have n4_:=Aside0.mk (Kd.R_lower (Kd.R_new' (Kd.R_new' (Kd.R_new' ho0 (Kd.R_lt (by (with_reducible repeat (first|apply Kd.R_alloc|apply Kd.R_drewN|apply Kd.R_drew));exact HO_11.out))) (Kd.R_lt (by (with_reducible repeat (first|apply Kd.R_alloc|apply Kd.R_drewN|apply Kd.R_drew));exact HO_399000.out))) (Kd.R_lt (by (with_reducible repeat (first|apply Kd.R_alloc|apply Kd.R_drewN|apply Kd.R_drew));exact HO409.out))) (below_size (by repeat (first|(with_reducible first|exact HB.out|apply below_alloc|apply pw_below_drewN|apply below_drew1|refine below_set ?_ GE381.out|refine below_set ?_ GE398.out)|exact HB.out))));have n5_:=Aside0.mk (blk_below (g:=gb381) (o:=.cells #[.slice A0_0 l0_0.length c0_0] 24 (0,0)) (by (with_reducible repeat (first|refine blk_drewN ?_ _|refine blk_drew ?_|refine blk_alloc ?_ _));exact BK381.out) hb);have n6_:=Aside0.mk (blk_below (g:=gb398) (o:=.cells #[.slice Ao41 t395.length co41] 30 (0,0)) (by (with_reducible repeat (first|refine blk_drewN ?_ _|refine blk_drew ?_|refine blk_alloc ?_ _));exact BK398.out) hb);have n7_:=Aside0.mk (below_step (by repeat (first|(with_reducible first|exact HB.out|apply below_alloc|apply pw_below_drewN|apply below_drew1|refine below_set ?_ GE381.out|refine below_set ?_ GE398.out)|exact HB.out)) hb);clear HO_11;clear HO_12;clear HO_399000;clear HO409;clear BK381;clear BK398;clear HB;have HO_11:=n0_;have HO_12:=n1_;have HO_399000:=n2_;have HO409:=n3_;have HO413:=n4_;have BK381:=n5_;have BK398:=n6_;have HB:=n7_;clear n0_ n1_ n2_ n3_ n4_ n5_ n6_ n7_;(try clear hb);(try clear hb2);(try clear hk);(try clear hi);(try clear ho0);obtain ⟨Ao84,co84,eo84⟩:=Kd.R_slice HO413.out;subst eo84)|((with_reducible refine gate_callee (f:=17) rfl ?_);refine goesL_ (some 67) rfl rfl Try.func17 (by kernel_rfl) rfl #[.slice Ao47 t399.length co47,.slice Ao84 t411.length co84] rfl (by (try simp only [List.map_toArray,List.map_cons,List.map_nil]);first|done|rfl|(simp only [List.length_drop,List.length_take];rfl)) ?_;(with_reducible refine (laws_eqIntS.calls kj24 _ _ t399 _ _ t411 false _ ?side1 ?side2 ?side3 ?side4 A56.out).mono ?_);(case side1=>repeat (first|exact (Kd.R_reads' HO_11.out).2.2|(with_reducible refine Kd.C_alloc ?_ _)|(with_reducible refine Kd.C_drewN ?_ _)|(with_reducible refine Kd.C_drew ?_)));(case side2=>exact (Kd.R_reads' HO_11.out).2.1);(case side3=>repeat (first|exact (Kd.R_reads' HO413.out).2.2|(with_reducible refine Kd.C_alloc ?_ _)|(with_reducible refine Kd.C_drewN ?_ _)|(with_reducible refine Kd.C_drew ?_)));(case side4=>exact (Kd.R_reads' HO413.out).2.1);rintro e w' ⟨rfl,⟨nd,rfl⟩⟩;refine ⟨_,rfl,?_⟩))
         go_ret
         exact ⟨by first|rfl|(simp [errW_none,errW_some] <;> rfl)|(simp [*,errW_none,errW_some] <;> rfl),by repeat (first|(with_reducible first|exact HB.out|apply below_alloc|apply pw_below_drewN|apply below_drew1|refine below_set ?_ GE381.out|refine below_set ?_ GE398.out)|exact HB.out)⟩
       ·replace c54:=Bool.eq_false_iff.mpr c54
        subst c54
        have H1:(some false) = some r:=by rw [if_neg (show ¬ (false = true) by decide)] at H;exact H
        clear H
        have H:=H1
        clear H1
        obtain rfl:=Option.some.inj H
        try go_wp2
        have n0_:=Aside0.mk (Kd.R_drew HO_11.out)
        have n1_:=Aside0.mk (Kd.S_drew HO_12.out)
        have n2_:=Aside0.mk (Kd.R_drew HO_399000.out)
        have n3_:=Aside0.mk (blk_drew BK381.out)
        have n4_:=Aside0.mk (blk_drew BK398.out)
        have n5_:=Aside0.mk (below_drew1 HB.out)
        clear HO_11
        clear HO_12
        clear HO_399000
        clear BK381
        clear BK398
        clear HB
        have HO_11:=n0_
        have HO_12:=n1_
        have HO_399000:=n2_
        have BK381:=n3_
        have BK398:=n4_
        have HB:=n5_
        clear n0_ n1_ n2_ n3_ n4_ n5_
        refine start_ (n:=5) (S:=fun w'=>w'.cell? ⟨gb398,0,none⟩ = some (.slice Ao41 t395.length co41) ∧ w'.cell? ⟨gb381,0,none⟩ = some (.slice A0_0 l0_0.length c0_0)) (ds:=[]) #[false,false,false,false,false] (by kernel_rfl) rfl rfl ⟨(blk_cell BK398.out 0).trans rfl,(blk_cell BK381.out 0).trans rfl⟩ (fun hHeld=>?_)
        generalize wc.drew = w85 at HO_11 HO_12 HO_399000 BK381 BK398 HB hHeld ⊢
        refine take_ (i:=0) (N:=some 59) (v:=?_) (a':=?_) #[true,false,false,false,false] rfl rfl (by kernel_rfl) (fun _ _ _ h=>h) (Or.inl ⟨by rfl,?_⟩) hHeld ?_ ?_
        rotate_left
        ·rintro w' ⟨s0,s1⟩
         go_simp
         with_reducible rfl
        rotate_left
        ·simp only [Act.put,List.setIfInBounds_toArray,List.set_cons_zero,List.set_cons_succ,i64_w,i32_w]
         rfl
        refine take_ (i:=1) (N:=some 60) (v:=?_) (a':=?_) #[true,true,false,false,false] rfl rfl (by kernel_rfl) (fun _ _ _ h=>h) (Or.inl ⟨by rfl,?_⟩) hHeld ?_ ?_
        rotate_left
        ·rintro w' ⟨s0,s1⟩
         go_simp
         with_reducible rfl
        rotate_left
        ·simp only [Act.put,List.setIfInBounds_toArray,List.set_cons_zero,List.set_cons_succ,i64_w,i32_w]
         rfl
        refine one_ (i:=2) (N:=some 61) #[true,true,true,false,false] rfl rfl (by kernel_rfl) (by decide) (fun K hK=>?_)
        refine goes_ Try.func12 (by kernel_rfl) rfl #[.agg #[.slice A0_0 l0_0.length c0_0]] (by rfl) rfl rfl (by (try simp only [List.map_toArray,List.map_cons,List.map_nil]);first|done|rfl|(simp only [List.length_drop,List.length_take];rfl)) ?_
        with_reducible refine (laws_toSign.calls kj24 _ _ l0_0 t407 _ ?side1 ?side2 A52.out).mono ?_
        (case side1=>repeat (first|exact (Kd.C_below HR0_0.out HB.out)|(with_reducible refine Kd.C_alloc ?_ _)|(with_reducible refine Kd.C_drewN ?_ _)|(with_reducible refine Kd.C_drew ?_)))
        (case side2=>exact HC0_0.out)
        rintro e w86 ⟨v408,rfl,ho0,hb⟩
        refine ⟨_,rfl,?_⟩
        have n0_:=Aside0.mk (Kd.R_elder' (by (with_reducible repeat (first|apply Kd.R_alloc|apply Kd.R_drewN|apply Kd.R_drew));exact HO_11.out) (Kd.R_base ho0) hb)
        have n1_:=Aside0.mk (Kd.S_elder' (by (with_reducible repeat (first|apply Kd.S_alloc|apply Kd.S_drewN|apply Kd.S_drew));exact HO_12.out) (Kd.R_base ho0) hb)
        have n2_:=Aside0.mk (Kd.R_elder' (by (with_reducible repeat (first|apply Kd.R_alloc|apply Kd.R_drewN|apply Kd.R_drew));exact HO_399000.out) (Kd.R_base ho0) hb)
        have n3_:=Aside0.mk (Kd.R_lower (Kd.R_new' (Kd.R_new' ho0 (Kd.R_lt (by (with_reducible repeat (first|apply Kd.R_alloc|apply Kd.R_drewN|apply Kd.R_drew));exact HO_11.out))) (Kd.R_lt (by (with_reducible repeat (first|apply Kd.R_alloc|apply Kd.R_drewN|apply Kd.R_drew));exact HO_399000.out))) (below_size (by repeat (first|(with_reducible first|exact HB.out|apply below_alloc|apply pw_below_drewN|apply below_drew1|refine below_set ?_ GE381.out|refine below_set ?_ GE398.out)|exact HB.out))))
        have n4_:=Aside0.mk (blk_below (g:=gb381) (o:=.cells #[.slice A0_0 l0_0.length c0_0] 24 (0,0)) (by (with_reducible repeat (first|refine blk_drewN ?_ _|refine blk_drew ?_|refine blk_alloc ?_ _));exact BK381.out) hb)
        have n5_:=Aside0.mk (blk_below (g:=gb398) (o:=.cells #[.slice Ao41 t395.length co41] 30 (0,0)) (by (with_reducible repeat (first|refine blk_drewN ?_ _|refine blk_drew ?_|refine blk_alloc ?_ _));exact BK398.out) hb)
        have n6_:=Aside0.mk (below_step (by repeat (first|(with_reducible first|exact HB.out|apply below_alloc|apply pw_below_drewN|apply below_drew1|refine below_set ?_ GE381.out|refine below_set ?_ GE398.out)|exact HB.out)) hb)
        clear HO_11
        clear HO_12
        clear HO_399000
        clear BK381
        clear BK398
        clear HB
        have HO_11:=n0_
        have HO_12:=n1_
        have HO_399000:=n2_
        have HO409:=n3_
        have BK381:=n4_
        have BK398:=n5_
        have HB:=n6_
        clear n0_ n1_ n2_ n3_ n4_ n5_ n6_
        (try clear hb)
        (try clear hb2)
        (try clear hk)
        (try clear hi)
        (try clear ho0)
        obtain ⟨Ao87,co87,eo87⟩:=Kd.R_slice HO409.out
        (first|subst eo87|(injection eo87 with f1_ f2_ f3_;have f4_:=f1_.symm;have f5_:=f3_.symm;clear f1_ f2_ f3_;subst f4_;subst f5_))
        refine hK.out _ _ ⟨(blk_cell BK398.out 0).trans rfl,(blk_cell BK381.out 0).trans rfl⟩ (fun hHeld=>?_)
        clear hK K
        refine norm_ (a':=?_) ?_ ?_
        rotate_left
        ·show Act.put _ (some 61) _ = _
         simp only [Act.put,List.setIfInBounds_toArray,List.set_cons_zero,List.set_cons_succ,i64_w,i32_w]
         rfl
        refine one_ (i:=3) (N:=some 62) #[true,true,true,true,false] rfl rfl (by kernel_rfl) (by decide) (fun K hK=>?_)
        refine goes_ Try.func16 (by kernel_rfl) rfl #[.agg #[.slice Ao41 t395.length co41],.agg #[.slice Ao87 t407.length co87]] (by rfl) rfl rfl (by (try simp only [List.map_toArray,List.map_cons,List.map_nil]);first|done|rfl|(simp only [List.length_drop,List.length_take];rfl)) ?_
        with_reducible refine (laws_eqSign.calls kj24 _ _ t395 _ _ t407 false _ ?side1 ?side2 ?side3 ?side4 A53.out).mono ?_
        (case side1=>repeat (first|exact (Kd.R_reads' HO_399000.out).2.2|(with_reducible refine Kd.C_alloc ?_ _)|(with_reducible refine Kd.C_drewN ?_ _)|(with_reducible refine Kd.C_drew ?_)))
        (case side2=>exact (Kd.R_reads' HO_399000.out).2.1)
        (case side3=>repeat (first|exact (Kd.R_reads' HO409.out).2.2|(with_reducible refine Kd.C_alloc ?_ _)|(with_reducible refine Kd.C_drewN ?_ _)|(with_reducible refine Kd.C_drew ?_)))
        (case side4=>exact (Kd.R_reads' HO409.out).2.1)
        rintro e w88 ⟨rfl,hb⟩
        refine ⟨_,rfl,?_⟩
        have n0_:=Aside0.mk (Kd.R_below (by (with_reducible repeat (first|apply Kd.R_alloc|apply Kd.R_drewN|apply Kd.R_drew));exact HO_11.out) hb)
        have n1_:=Aside0.mk (Kd.S_below (by (with_reducible repeat (first|apply Kd.S_alloc|apply Kd.S_drewN|apply Kd.S_drew));exact HO_12.out) hb)
        have n2_:=Aside0.mk (Kd.R_below (by (with_reducible repeat (first|apply Kd.R_alloc|apply Kd.R_drewN|apply Kd.R_drew));exact HO_399000.out) hb)
        have n3_:=Aside0.mk (Kd.R_below (by (with_reducible repeat (first|apply Kd.R_alloc|apply Kd.R_drewN|apply Kd.R_drew));exact HO409.out) hb)
        have n4_:=Aside0.mk (blk_below (g:=gb381) (o:=.cells #[.slice A0_0 l0_0.length c0_0] 24 (0,0)) (by (with_reducible repeat (first|refine blk_drewN ?_ _|refine blk_drew ?_|refine blk_alloc ?_ _));exact BK381.out) hb)
        have n5_:=Aside0.mk (blk_below (g:=gb398) (o:=.cells #[.slice Ao41 t395.length co41] 30 (0,0)) (by (with_reducible repeat (first|refine blk_drewN ?_ _|refine blk_drew ?_|refine blk_alloc ?_ _));exact BK398.out) hb)
        have n6_:=Aside0.mk (below_step (by repeat (first|(with_reducible first|exact HB.out|apply below_alloc|apply pw_below_drewN|apply below_drew1|refine below_set ?_ GE381.out|refine below_set ?_ GE398.out)|exact HB.out)) hb)
        clear HO_11
        clear HO_12
        clear HO_399000
        clear HO409
        clear BK381
        clear BK398
        clear HB
        have HO_11:=n0_
        have HO_12:=n1_
        have HO_399000:=n2_
        have HO409:=n3_
        have BK381:=n4_
        have BK398:=n5_
        have HB:=n6_
        clear n0_ n1_ n2_ n3_ n4_ n5_ n6_
        (try clear hb)
        (try clear hb2)
        (try clear hk)
        (try clear hi)
        refine hK.out _ _ ⟨(blk_cell BK398.out 0).trans rfl,(blk_cell BK381.out 0).trans rfl⟩ (fun hHeld=>?_)
        clear hK K
        refine norm_ (a':=?_) ?_ ?_
        rotate_left
        ·show Act.put _ (some 62) _ = _
         simp only [Act.put,List.setIfInBounds_toArray,List.set_cons_zero,List.set_cons_succ,i64_w,i32_w]
         rfl
        refine pure_ (i:=4) (N:=some 63) (v:=?_) (a':=?_) #[true,true,true,true,true] rfl rfl (by kernel_rfl) (fun _ _ _ h=>h) (Or.inl ⟨by rfl,?_⟩) ?_ ?_
        rotate_left
        ·intro w'
         go_simp
         with_reducible rfl
        rotate_left
        ·simp only [Act.put,List.setIfInBounds_toArray,List.set_cons_zero,List.set_cons_succ,i64_w,i32_w]
         rfl
        refine done_ (by kernel_rfl) ?_
        try go_wp2
        go_ret
        exact ⟨by first|rfl|(simp [errW_none,errW_some] <;> rfl)|(simp [*,errW_none,errW_some] <;> rfl),by repeat (first|(with_reducible first|exact HB.out|apply below_alloc|apply pw_below_drewN|apply below_drew1|refine below_set ?_ GE381.out|refine below_set ?_ GE398.out)|exact HB.out)⟩

/-- THE ONE PURE STATEMENT of laws_FnExactIsNormal: yours. -/
def laws_FnExactIsNormal.Pure:Prop:=∀ (l0_0:List Int) (l1:List Int) (l2:List (S62)),(l0_0.length ≤ maxLen ∧ ∀ a ∈ l0_0,(Lit.int .i64 a).wf = true) → (l1.length ≤ maxLen ∧ ∀ a ∈ l1,(Lit.int .i64 a).wf = true) → (l2.length ≤ maxLen ∧ ∀ a ∈ l2,(True ∧ (a.f1.length ≤ maxLen ∧ ∀ b ∈ a.f1,(Lit.int .i64 b).wf = true) ∧ (a.f2.length ≤ maxLen ∧ ∀ b ∈ a.f2,(Lit.int .i64 b).wf = true))) → ∃ k,laws_FnExactIsNormal.f k l0_0 l1 l2 = some true

end Go.Proofs.Ytlgnanbnicmdaab.QFnExactIsNormal
