-- Written by this session's own program (wip/x/xprint.py, over the kit's printer); Lean checks it.
import Derived.Test.YtlgnanbnicmdaabQFnExactNormalClausex0
import Derived.Test.YtlgnanbnicmdaabQFnExactNormalClausex9
namespace Go.Proofs.Ytlgnanbnicmdaab.QFnExactNormalClause
open Go.RowKit Go.Proofs.YtlgnanbnicmdaabW.PrintWords Go.Proofs.YtlgnanbnicmdaabW.PrintLast Go.Proofs.YtlgnanbnicmdaabW.PrintMore
attribute [local go_sem] max2_int min2_int max_two min_two max_three min_three max_four min_four   -- for this text's walks alone
set_option linter.unusedVariables false
set_option linter.unusedSimpArgs false

/-! ### impl_Sign_isLit: function 77 -/
def impl_Sign_isLit.f (k:Nat) (l0_0:List Int) (a1_0:Bool) (l1_1:List Int) (l1_2:List Int):Option (Bool):=(impl_Sign_isTerm.f k l0_0 l1_1).bind fun t358=>(if t358 = true then ((impl_Sign_isTerm.f k l0_0 l1_2).bind fun t359=>(some t359)) else (some false))
theorem impl_Sign_isLit.mono:∀ a0 a1 a2 a3 k,LeO (impl_Sign_isLit.f k a0 a1 a2 a3) (impl_Sign_isLit.f (k + 1) a0 a1 a2 a3):=by
 intro a0 a1 a2 a3 k
 unfold impl_Sign_isLit.f
 have m0:=@impl_Sign_isTerm.mono
 exact mO
set_option maxHeartbeats 8000000 in
set_option maxRecDepth 100000 in
theorem impl_Sign_isLit.calls (k:Nat) (A0_0:Option Addr) (c0_0:Nat) (l0_0:List Int) (a1_0:Bool) (A1_1:Option Addr) (c1_1:Nat) (l1_1:List Int) (A1_2:Option Addr) (c1_2:Nat) (l1_2:List Int) (r:Bool) (w:World) (hr0_0:Kd.C (Kd.int .i64) w A0_0 l0_0.length l0_0) (hc0_0:l0_0.length ≤ c0_0) (hr1_1:Kd.C (Kd.int .i64) w A1_1 l1_1.length l1_1) (hc1_1:l1_1.length ≤ c1_1) (hr1_2:Kd.C (Kd.int .i64) w A1_2 l1_2.length l1_2) (hc1_2:l1_2.length ≤ c1_2) (h:impl_Sign_isLit.f k l0_0 a1_0 l1_1 l1_2 = some r) :
  Calls Try.prog 77 #[.agg #[.slice A0_0 l0_0.length c0_0],.agg #[.bool a1_0,.slice A1_1 l1_1.length c1_1,.slice A1_2 l1_2.length c1_2]] w fun e w'=>e = .returned (.bool r) ∧ Below w.heap.size w w':=by
 have hu30:=Try.underlying30
 have hu65:=Try.underlying65
 have HR0_0:=Aside0.mk hr0_0
 have HC0_0:=Aside0.mk hc0_0
 clear hr0_0 hc0_0
 have HR1_1:=Aside0.mk hr1_1
 have HC1_1:=Aside0.mk hc1_1
 clear hr1_1 hc1_1
 have HR1_2:=Aside0.mk hr1_2
 have HC1_2:=Aside0.mk hc1_2
 clear hr1_2 hc1_2
 have HB:=Aside0.mk (Below.refl w.heap.size w)
 have H:((impl_Sign_isTerm.f k l0_0 l1_1).bind fun t358=>(if t358 = true then ((impl_Sign_isTerm.f k l0_0 l1_2).bind fun t359=>(some t359)) else (some false))) = some r:=h
 clear h
 replace H:=Option.bind_eq_some_iff.mp H
 obtain ⟨t358,A30,H⟩:=H
 replace H:(if t358 = true then ((impl_Sign_isTerm.f k l0_0 l1_2).bind fun t359=>(some t359)) else (some false)) = some r:=H
 have A3:=Aside0.mk A30
 clear A30
 by_cases c4:t358 = true
 ·subst c4
  have H1:((impl_Sign_isTerm.f k l0_0 l1_2).bind fun t359=>(some t359)) = some r:=by rw [if_pos rfl] at H;exact H
  clear H
  have H:=H1
  clear H1
  replace H:=Option.bind_eq_some_iff.mp H
  obtain ⟨t359,A50,H⟩:=H
  replace H:(some t359) = some r:=H
  have A5:=Aside0.mk A50
  clear A50
  obtain rfl:=Option.some.inj H
  go_enter Try.func77,Try.ntmps77
  go_wp2_with (first|((with_reducible refine gate_dst (N:=2) rfl ?_);refine box_event ?hg (N:=2) ?hd (cs:=#[.slice A0_0 l0_0.length c0_0]) (t:=30) ?hr ?_;(case hd=>rfl);(case hg=>rfl);(case hr=>first|(go_simp;done)|(go_simp;rfl));intro gb356 hg w6 hbox hb;have BK356:=Aside0.mk (hbox);have GW356:=Aside0.mk ((hZ:w.heap.size ≤ gb356));have GE356:=Aside0.mk ((hZ:w.heap.size ≤ gb356));replace HB:=Aside0.mk (below_step bH hb);clear hb hbox hg)|((with_reducible refine gate_dst (N:=3) rfl ?_);refine box_event ?hg (N:=3) ?hd (cs:=#[.bool a1_0,.slice A1_1 l1_1.length c1_1,.slice A1_2 l1_2.length c1_2]) (t:=65) ?hr ?_;(case hd=>rfl);(case hg=>rfl);(case hr=>first|(go_simp;done)|(go_simp;rfl));intro gb357 hg w7 hbox hb;have BK357:=Aside0.mk (hbox);have GW357:=Aside0.mk ((hZ:w.heap.size ≤ gb357));have GE357:=Aside0.mk ((hZ:w.heap.size ≤ gb357));replace HB:=Aside0.mk (below_step bH hb);have NB356_357:=Aside0.mk ((nL BK356:gb356 ≠ gb357));have NB357_356:=Aside0.mk ((nG BK356:gb357 ≠ gb356));replace BK356:=Aside0.mk (blk_below (bB BK356) hb);clear hb hbox hg;have hnb8:=NB356_357.out;have hnc8:=NB357_356.out;have hcz9_0:w7.cell? ⟨gb356,0,none⟩ = some (.slice A0_0 l0_0.length c0_0):=(blk_cell BK356.out 0).trans rfl;have hfz9_0:=blk_frozen BK356.out 0;have hcz10_0:w7.cell? ⟨gb357,0,none⟩ = some (.bool a1_0):=(blk_cell BK357.out 0).trans rfl;have hcz10_1:w7.cell? ⟨gb357,1,none⟩ = some (.slice A1_1 l1_1.length c1_1):=(blk_cell BK357.out 1).trans rfl;have hcz10_2:w7.cell? ⟨gb357,2,none⟩ = some (.slice A1_2 l1_2.length c1_2):=(blk_cell BK357.out 2).trans rfl;have hfz10_0:=blk_frozen BK357.out 0;have hfz10_1:=blk_frozen BK357.out 1;have hfz10_2:=blk_frozen BK357.out 2)|((with_reducible refine gate_callee (f:=74) rfl ?_);refine goesL_ (some 8) rfl rfl Try.func74 (by kernel_rfl) rfl #[.agg #[.slice A0_0 l0_0.length c0_0],.slice A1_1 l1_1.length c1_1] rfl Ya ?_;(with_reducible refine (impl_Sign_isTerm.calls k _ _ l0_0 _ _ l1_1 true _ ?side1 ?side2 ?side3 ?side4 A3.out).mono ?_);(case side1=>exact sC HR0_0);(case side2=>exact HC0_0.out);(case side3=>exact sC HR1_1);(case side4=>exact HC1_1.out);rintro e w11 ⟨rfl,hb⟩;refine ⟨_,rfl,?_⟩;replace BK356:=Aside0.mk (blk_below (bB BK356) hb);replace BK357:=Aside0.mk (blk_below (bB BK357) hb);replace HB:=Aside0.mk (below_step bH hb);(try clear hb);(try clear hb2);(try clear hk);(try clear hi);have hcz12_0:w11.cell? ⟨gb356,0,none⟩ = some (.slice A0_0 l0_0.length c0_0):=(blk_cell BK356.out 0).trans rfl;have hfz12_0:=blk_frozen BK356.out 0;have hcz13_0:w11.cell? ⟨gb357,0,none⟩ = some (.bool a1_0):=(blk_cell BK357.out 0).trans rfl;have hcz13_1:w11.cell? ⟨gb357,1,none⟩ = some (.slice A1_1 l1_1.length c1_1):=(blk_cell BK357.out 1).trans rfl;have hcz13_2:w11.cell? ⟨gb357,2,none⟩ = some (.slice A1_2 l1_2.length c1_2):=(blk_cell BK357.out 2).trans rfl;have hfz13_0:=blk_frozen BK357.out 0;have hfz13_1:=blk_frozen BK357.out 1;have hfz13_2:=blk_frozen BK357.out 2)|(go_at_call 74;(with_reducible refine (impl_Sign_isTerm.calls k _ _ l0_0 _ _ l1_2 t359 _ ?side1 ?side2 ?side3 ?side4 A5.out).mono ?_);(case side1=>exact sC HR0_0);(case side2=>exact HC0_0.out);(case side3=>exact sC HR1_2);(case side4=>exact HC1_2.out);rintro e w14 ⟨rfl,hb⟩;replace BK356:=Aside0.mk (blk_below (bB BK356) hb);replace BK357:=Aside0.mk (blk_below (bB BK357) hb);replace HB:=Aside0.mk (below_step bH hb);(try clear hb);(try clear hb2);(try clear hk);(try clear hi)))
  go_ret
  exact ⟨by first|rfl|(simp [errW_none,errW_some] <;> rfl)|(simp [*,errW_none,errW_some] <;> rfl),bH⟩
 ·replace c4:=Bool.eq_false_iff.mpr c4
  subst c4
  have H1:(some false) = some r:=by rw [if_neg (show ¬ (false = true) by decide)] at H;exact H
  clear H
  have H:=H1
  clear H1
  obtain rfl:=Option.some.inj H
  go_enter Try.func77,Try.ntmps77
  go_wp2_with (first|((with_reducible refine gate_dst (N:=2) rfl ?_);refine box_event ?hg (N:=2) ?hd (cs:=#[.slice A0_0 l0_0.length c0_0]) (t:=30) ?hr ?_;(case hd=>rfl);(case hg=>rfl);(case hr=>first|(go_simp;done)|(go_simp;rfl));intro gb356 hg w15 hbox hb;have BK356:=Aside0.mk (hbox);have GW356:=Aside0.mk ((hZ:w.heap.size ≤ gb356));have GE356:=Aside0.mk ((hZ:w.heap.size ≤ gb356));replace HB:=Aside0.mk (below_step bH hb);clear hb hbox hg)|((with_reducible refine gate_dst (N:=3) rfl ?_);refine box_event ?hg (N:=3) ?hd (cs:=#[.bool a1_0,.slice A1_1 l1_1.length c1_1,.slice A1_2 l1_2.length c1_2]) (t:=65) ?hr ?_;(case hd=>rfl);(case hg=>rfl);(case hr=>first|(go_simp;done)|(go_simp;rfl));intro gb357 hg w16 hbox hb;have BK357:=Aside0.mk (hbox);have GW357:=Aside0.mk ((hZ:w.heap.size ≤ gb357));have GE357:=Aside0.mk ((hZ:w.heap.size ≤ gb357));replace HB:=Aside0.mk (below_step bH hb);have NB356_357:=Aside0.mk ((nL BK356:gb356 ≠ gb357));have NB357_356:=Aside0.mk ((nG BK356:gb357 ≠ gb356));replace BK356:=Aside0.mk (blk_below (bB BK356) hb);clear hb hbox hg;have hnb17:=NB356_357.out;have hnc17:=NB357_356.out;have hcz18_0:w16.cell? ⟨gb356,0,none⟩ = some (.slice A0_0 l0_0.length c0_0):=(blk_cell BK356.out 0).trans rfl;have hfz18_0:=blk_frozen BK356.out 0;have hcz19_0:w16.cell? ⟨gb357,0,none⟩ = some (.bool a1_0):=(blk_cell BK357.out 0).trans rfl;have hcz19_1:w16.cell? ⟨gb357,1,none⟩ = some (.slice A1_1 l1_1.length c1_1):=(blk_cell BK357.out 1).trans rfl;have hcz19_2:w16.cell? ⟨gb357,2,none⟩ = some (.slice A1_2 l1_2.length c1_2):=(blk_cell BK357.out 2).trans rfl;have hfz19_0:=blk_frozen BK357.out 0;have hfz19_1:=blk_frozen BK357.out 1;have hfz19_2:=blk_frozen BK357.out 2)|((with_reducible refine gate_callee (f:=74) rfl ?_);refine goesL_ (some 8) rfl rfl Try.func74 (by kernel_rfl) rfl #[.agg #[.slice A0_0 l0_0.length c0_0],.slice A1_1 l1_1.length c1_1] rfl Ya ?_;(with_reducible refine (impl_Sign_isTerm.calls k _ _ l0_0 _ _ l1_1 false _ ?side1 ?side2 ?side3 ?side4 A3.out).mono ?_);(case side1=>exact sC HR0_0);(case side2=>exact HC0_0.out);(case side3=>exact sC HR1_1);(case side4=>exact HC1_1.out);rintro e w20 ⟨rfl,hb⟩;refine ⟨_,rfl,?_⟩;replace BK356:=Aside0.mk (blk_below (bB BK356) hb);replace BK357:=Aside0.mk (blk_below (bB BK357) hb);replace HB:=Aside0.mk (below_step bH hb);(try clear hb);(try clear hb2);(try clear hk);(try clear hi)))
  go_ret
  exact ⟨by first|rfl|(simp [errW_none,errW_some] <;> rfl)|(simp [*,errW_none,errW_some] <;> rfl),bH⟩

/-! ### impl_Sign_areUnits_1: function 76 -/
def impl_Sign_areUnits_1.f (k:Nat) (a0_0:Bool) (l0_1:List Int) (l0_2:List Int) (l1_0:List Int):Option (Bool):=if a0_0 = true then ((impl_Sign_isLit.f k l1_0 a0_0 l0_1 l0_2).bind fun t361=>(some (!t361))) else (some true)
theorem impl_Sign_areUnits_1.mono:∀ a0 a1 a2 a3 k,LeO (impl_Sign_areUnits_1.f k a0 a1 a2 a3) (impl_Sign_areUnits_1.f (k + 1) a0 a1 a2 a3):=by
 intro a0 a1 a2 a3 k
 unfold impl_Sign_areUnits_1.f
 have m0:=@impl_Sign_isLit.mono
 exact mO
set_option maxHeartbeats 8000000 in
set_option maxRecDepth 100000 in
theorem impl_Sign_areUnits_1.calls (k:Nat) (a0_0:Bool) (A0_1:Option Addr) (c0_1:Nat) (l0_1:List Int) (A0_2:Option Addr) (c0_2:Nat) (l0_2:List Int) (g1_:Nat) (A1_0:Option Addr) (c1_0:Nat) (l1_0:List Int) (r:Bool) (w:World) (hr0_1:Kd.C (Kd.int .i64) w A0_1 l0_1.length l0_1) (hc0_1:l0_1.length ≤ c0_1) (hr0_2:Kd.C (Kd.int .i64) w A0_2 l0_2.length l0_2) (hc0_2:l0_2.length ≤ c0_2) (hr1_0:Kd.C (Kd.int .i64) w A1_0 l1_0.length l1_0) (hc1_0:l1_0.length ≤ c1_0) (hg1:w.heap[g1_]? = some (.cells #[.slice A1_0 l1_0.length c1_0] 30 (0,0))) (h:impl_Sign_areUnits_1.f k a0_0 l0_1 l0_2 l1_0 = some r) :
  Calls Try.prog 76 #[.agg #[.bool a0_0,.slice A0_1 l0_1.length c0_1,.slice A0_2 l0_2.length c0_2],.pointer (some ⟨g1_,0,none⟩)] w fun e w'=>e = .returned (.bool r) ∧ Below w.heap.size w w':=by
 have hu65:=Try.underlying65
 have hu30:=Try.underlying30
 have HR0_1:=Aside0.mk hr0_1
 have HC0_1:=Aside0.mk hc0_1
 clear hr0_1 hc0_1
 have HR0_2:=Aside0.mk hr0_2
 have HC0_2:=Aside0.mk hc0_2
 clear hr0_2 hc0_2
 have HR1_0:=Aside0.mk hr1_0
 have HC1_0:=Aside0.mk hc1_0
 clear hr1_0 hc1_0
 have BK1:=Aside0.mk hg1
 clear hg1
 have HB:=Aside0.mk (Below.refl w.heap.size w)
 have H:(if a0_0 = true then ((impl_Sign_isLit.f k l1_0 a0_0 l0_1 l0_2).bind fun t361=>(some (!t361))) else (some true)) = some r:=h
 clear h
 by_cases c3:a0_0 = true
 ·subst c3
  have H1:((impl_Sign_isLit.f k l1_0 true l0_1 l0_2).bind fun t361=>(some (!t361))) = some r:=by rw [if_pos rfl] at H;exact H
  clear H
  have H:=H1
  clear H1
  replace H:=Option.bind_eq_some_iff.mp H
  obtain ⟨t361,A40,H⟩:=H
  replace H:(some (!t361)) = some r:=H
  have A4:=Aside0.mk A40
  clear A40
  obtain rfl:=Option.some.inj H
  go_enter Try.func76,Try.ntmps76
  go_wp2_with (first|((with_reducible refine gate_dst (N:=2) rfl ?_);refine box_event ?hg (N:=2) ?hd (cs:=#[.bool true,.slice A0_1 l0_1.length c0_1,.slice A0_2 l0_2.length c0_2]) (t:=65) ?hr ?_;(case hd=>rfl);(case hg=>rfl);(case hr=>first|(go_simp;done)|(go_simp;rfl));intro gb360 hg w5 hbox hb;have BK360:=Aside0.mk (hbox);have GW360:=Aside0.mk ((hZ:w.heap.size ≤ gb360));have GE360:=Aside0.mk ((hZ:w.heap.size ≤ gb360));replace HB:=Aside0.mk (below_step bH hb);have NB1_360:=Aside0.mk ((nL BK1:g1_ ≠ gb360));have NB360_1:=Aside0.mk ((nG BK1:gb360 ≠ g1_));replace BK1:=Aside0.mk (blk_below (bB BK1) hb);clear hb hbox hg;have hnb6:=NB360_1.out;have hnc6:=NB1_360.out;have hcz7_0:w5.cell? ⟨gb360,0,none⟩ = some (.bool true):=(blk_cell BK360.out 0).trans rfl;have hcz7_1:w5.cell? ⟨gb360,1,none⟩ = some (.slice A0_1 l0_1.length c0_1):=(blk_cell BK360.out 1).trans rfl;have hcz7_2:w5.cell? ⟨gb360,2,none⟩ = some (.slice A0_2 l0_2.length c0_2):=(blk_cell BK360.out 2).trans rfl;have hfz7_0:=blk_frozen BK360.out 0;have hfz7_1:=blk_frozen BK360.out 1;have hfz7_2:=blk_frozen BK360.out 2;have hcz8_0:w5.cell? ⟨g1_,0,none⟩ = some (.slice A1_0 l1_0.length c1_0):=(blk_cell BK1.out 0).trans rfl;have hfz8_0:=blk_frozen BK1.out 0)|(go_at_call 77;(with_reducible refine (impl_Sign_isLit.calls k _ _ l1_0 true _ _ l0_1 _ _ l0_2 t361 _ ?side1 ?side2 ?side3 ?side4 ?side5 ?side6 A4.out).mono ?_);(case side1=>exact sC HR1_0);(case side2=>exact HC1_0.out);(case side3=>exact sC HR0_1);(case side4=>exact HC0_1.out);(case side5=>exact sC HR0_2);(case side6=>exact HC0_2.out);rintro e w9 ⟨rfl,hb⟩;replace BK1:=Aside0.mk (blk_below (bB BK1) hb);replace BK360:=Aside0.mk (blk_below (bB BK360) hb);replace HB:=Aside0.mk (below_step bH hb);(try clear hb);(try clear hb2);(try clear hk);(try clear hi)))
  go_ret
  exact ⟨by first|rfl|(simp [errW_none,errW_some] <;> rfl)|(simp [*,errW_none,errW_some] <;> rfl),bH⟩
 ·replace c3:=Bool.eq_false_iff.mpr c3
  subst c3
  have H1:(some true) = some r:=by rw [if_neg (show ¬ (false = true) by decide)] at H;exact H
  clear H
  have H:=H1
  clear H1
  obtain rfl:=Option.some.inj H
  go_enter Try.func76,Try.ntmps76
  go_wp2_with (first|((with_reducible refine gate_dst (N:=2) rfl ?_);refine box_event ?hg (N:=2) ?hd (cs:=#[.bool false,.slice A0_1 l0_1.length c0_1,.slice A0_2 l0_2.length c0_2]) (t:=65) ?hr ?_;(case hd=>rfl);(case hg=>rfl);(case hr=>first|(go_simp;done)|(go_simp;rfl));intro gb360 hg w10 hbox hb;have BK360:=Aside0.mk (hbox);have GW360:=Aside0.mk ((hZ:w.heap.size ≤ gb360));have GE360:=Aside0.mk ((hZ:w.heap.size ≤ gb360));replace HB:=Aside0.mk (below_step bH hb);have NB1_360:=Aside0.mk ((nL BK1:g1_ ≠ gb360));have NB360_1:=Aside0.mk ((nG BK1:gb360 ≠ g1_));replace BK1:=Aside0.mk (blk_below (bB BK1) hb);clear hb hbox hg;have hnb11:=NB360_1.out;have hnc11:=NB1_360.out;have hcz12_0:w10.cell? ⟨gb360,0,none⟩ = some (.bool false):=(blk_cell BK360.out 0).trans rfl;have hcz12_1:w10.cell? ⟨gb360,1,none⟩ = some (.slice A0_1 l0_1.length c0_1):=(blk_cell BK360.out 1).trans rfl;have hcz12_2:w10.cell? ⟨gb360,2,none⟩ = some (.slice A0_2 l0_2.length c0_2):=(blk_cell BK360.out 2).trans rfl;have hfz12_0:=blk_frozen BK360.out 0;have hfz12_1:=blk_frozen BK360.out 1;have hfz12_2:=blk_frozen BK360.out 2))
  go_ret
  exact ⟨by first|rfl|(simp [errW_none,errW_some] <;> rfl)|(simp [*,errW_none,errW_some] <;> rfl),bH⟩

/-! ### slices.ContainsFunc and IndexFunc, told -/
/-- The place of the first element of which f holds, told from i on; -1. -/
def idxO {α:Type} (f:α → Option Bool):Int → List α → Option Int
  | _,[]=>some (-1)
  | i,x :: t=>(f x).bind fun b=>if b = true then some i else idxO f (i + 1) t
/-- Does f hold of an element? -/
def anyO {α:Type} (f:α → Option Bool):List α → Option Bool
  | []=>some false
  | x :: t=>(f x).bind fun b=>if b = true then some true else anyO f t
theorem idxO_any {α:Type} (f:α → Option Bool) (l:List α):∀ (i:Int) (r:Bool),0 ≤ i → anyO f l = some r → ∃ j,idxO f i l = some j ∧ r = decide (0 ≤ j):=by
  induction l with
  | nil=>intro i r hi h;exact ⟨-1,rfl,by simpa [anyO] using h.symm⟩
  | cons x t ih =>
    intro i r hi h
    simp only [anyO] at h
    simp only [idxO]
    cases hx:f x with
    | none=>rw [hx] at h;simp at h
    | some b =>
      rw [hx] at h
      cases b with
      | true=>simp at h;exact ⟨i,by simp,by simp [hi,← h]⟩
      | false =>
        simp at h
        obtain ⟨j,h1,h2⟩:=ih (i + 1) r (by omega) h
        exact ⟨j,by simpa using h1,h2⟩
theorem anyO_mono {α:Type} {f g:α → Option Bool} (h:∀ x,LeO (f x) (g x)) (l:List α):LeO (anyO f l) (anyO g l):=by
  induction l with
  | nil=>exact LeO.refl _
  | cons x t ih =>
    simp only [anyO]
    exact LeO.bind (h x) (fun b=>LeO.ite (LeO.refl _) ih)
theorem idxO_mono {α:Type} {f g:α → Option Bool} (h:∀ x,LeO (f x) (g x)) (l:List α):∀ i,LeO (idxO f i l) (idxO g i l):=by
  induction l with
  | nil=>exact fun _=>LeO.refl _
  | cons x t ih =>
    intro i
    simp only [idxO]
    exact LeO.bind (h x) (fun b=>LeO.ite (LeO.refl _) (ih _))

/-! ### slices_IndexFunc: function 109 -/
set_option maxHeartbeats 2000000 in
set_option maxRecDepth 100000 in
theorem idx109 (g:Nat) (lb:Array Value) (eg:∀ args w,(callFunc g args).run Try.prog w = .ok (.enter g args) w) (f:S65 → Option Bool) (A:Option Addr) (c:Nat) (l:List S65) (r:Int) (w:World) (hr:Kd.C k65 w A l.length l) (hc:l.length ≤ c)
    (hp:∀ (W:World) (x:S65) (b:Bool) (E1:Option Addr) (e1:Nat) (E2:Option Addr) (e2:Nat),Below w.heap.size w W → Kd.C (Kd.int .i64) W E1 x.f1.length x.f1 → x.f1.length ≤ e1 → Kd.C (Kd.int .i64) W E2 x.f2.length x.f2 → x.f2.length ≤ e2 → f x = some b → Calls Try.prog g (#[.agg #[.bool x.f0,.slice E1 x.f1.length e1,.slice E2 x.f2.length e2]] ++ lb) W fun e w'=>e = .returned (.bool b) ∧ Below W.heap.size W w')
    (h:idxO f 0 l = some r) :
    Calls Try.prog 109 #[.slice A l.length c,.func (.func g) #[] lb] w fun e w'=>e = .returned (.int .i64 r) ∧ Below w.heap.size w w':=by
  have HR:=Aside0.mk hr
  have HP:=Aside0.mk hp
  have HL:=Aside0.mk hr.2.1
  have H:=Aside0.mk h
  clear hr hp h hc
  have hu:=Try.underlying65
  go_enter Try.func109,Try.ntmps109
  go_wp2
  go_loopg [5,8] (l.length + 1) (fun kq _ v8 w'=>∃ kk:Nat,v8 = .int .i64 kk ∧ Aside0 (kk ≤ l.length ∧ l.length + 1 ≤ kq + kk) ∧ Aside0 (idxO f kk (l.drop kk) = some r) ∧ Aside0 (Below w.heap.size w w'))
  case atStart=>exact ⟨0,rfl,⟨Nat.zero_le _,by omega⟩,⟨by simpa using H.out⟩,⟨Below.refl _ _⟩⟩
  case round =>
    obtain ⟨kk,rfl,HK,HI,HB⟩:=hrel
    have hkk:=HK.out.1
    by_cases hlt:kk < l.length
    · have hd:l.drop kk = l[kk] :: l.drop (kk + 1):=List.drop_eq_getElem_cons hlt
      have hi:=HI.out
      rw [hd] at hi
      simp only [idxO] at hi
      obtain ⟨b,hb,hi⟩:=Option.bind_eq_some_iff.1 hi
      have HW:=Aside0.mk (show wrap64 ((kk:Int) + 1) = ((kk + 1:Nat):Int) from by have:=HL.out;unfold wrap64;omega)
      have p:0 ≤ (kk:Int):=by omega
      have q:(kk:Int) < (l.length:Int):=by omega
      have q1:decide (kk < l.length) = true:=decide_eq_true hlt
      have q2:decide ((kk:Int) < (l.length:Int)) = true:=decide_eq_true q
      obtain ⟨ad,E1,e1,E2,e2,e1,hx0,hx1,hx2,he1,hE1,he2,hE2⟩:=at_T65 HR.out (kk:Int) p q
      cases e1
      have hrd:rd_T65 l (kk:Int) = l[kk]:=by unfold rd_T65;simp [List.getD_eq_getElem?_getD,List.getElem?_eq_getElem hlt]
      rw [hrd] at hx0 hx1 hx2 he1 hE1 he2 hE2
      clear hrd
      replace hx0:=(HB.out.cell (World.block_lt_of_cell? w _ hx0)).trans hx0
      replace hx1:=(HB.out.cell (World.block_lt_of_cell? w _ hx1)).trans hx1
      replace hx2:=(HB.out.cell (World.block_lt_of_cell? w _ hx2)).trans hx2
      replace hE1:=Kd.C_below hE1 HB.out
      replace hE2:=Kd.C_below hE2 HB.out
      rw [Int.toNat_natCast] at hx0 hx1 hx2
      generalize hy:l[kk] = y at hx0 hx1 hx2 he1 hE1 he2 hE2 hb
      clear hy hd
      have HC:=Aside0.mk (HP.out wr y b E1 e1 E2 e2 HB.out hE1 he1 hE2 he2 hb)
      clear HI hkk
      clear he1 hE1 he2 hE2
      cases b with
      | true =>
        have HE:=Aside0.mk (Option.some.inj hi)
        clear hi hb
        go_wp2_with fail
        refine HC.out.mono ?_
        rintro e w' ⟨rfl,hb'⟩
        have HB2:=Aside0.mk (below_step HB.out hb')
        clear HB hb' HC hx0 hx1 hx2
        have HB:=HB2
        clear HB2
        go_wp2_with fail
        go_ret
        exact ⟨by rw [← HE.out];rfl,HB.out⟩
      | false =>
        have HE:=Aside0.mk hi
        clear hi hb
        go_wp2_with fail
        refine HC.out.mono ?_
        rintro e w' ⟨rfl,hb'⟩
        have HB2:=Aside0.mk (below_step HB.out hb')
        clear HB hb' HC hx0 hx1 hx2
        have HB:=HB2
        clear HB2
        go_wp2_with fail
        go_roundg (l.length - kk)
        case measure=>have:=HK.out;omega
        case rel=>exact ⟨kk + 1,by rw [HW.out],⟨by have:=HK.out;omega⟩,⟨by rw [show ((kk + 1:Nat):Int) = (kk:Int) + 1 from by omega];simpa using HE.out⟩,HB⟩
    · have HE:=Aside0.mk (show -1 = r from by have:=HI.out;rw [List.drop_eq_nil_of_le (by omega)] at this;simp [idxO] at this;exact this)
      have q1:decide (kk < l.length) = false:=decide_eq_false hlt
      have q2:decide ((kk:Int) < (l.length:Int)) = false:=decide_eq_false (by omega)
      clear HI hkk
      go_wp2
      go_ret
      exact ⟨by rw [← HE.out];rfl,HB.out⟩

/-! ### slices_ContainsFunc: function 75 -/
set_option maxHeartbeats 2000000 in
theorem any75 (g:Nat) (lb:Array Value) (eg:∀ args w,(callFunc g args).run Try.prog w = .ok (.enter g args) w) (f:S65 → Option Bool) (A:Option Addr) (c:Nat) (l:List S65) (r:Bool) (w:World) (hr:Kd.C k65 w A l.length l) (hc:l.length ≤ c)
    (hp:∀ (W:World) (x:S65) (b:Bool) (E1:Option Addr) (e1:Nat) (E2:Option Addr) (e2:Nat),Below w.heap.size w W → Kd.C (Kd.int .i64) W E1 x.f1.length x.f1 → x.f1.length ≤ e1 → Kd.C (Kd.int .i64) W E2 x.f2.length x.f2 → x.f2.length ≤ e2 → f x = some b → Calls Try.prog g (#[.agg #[.bool x.f0,.slice E1 x.f1.length e1,.slice E2 x.f2.length e2]] ++ lb) W fun e w'=>e = .returned (.bool b) ∧ Below W.heap.size W w')
    (h:anyO f l = some r) :
    Calls Try.prog 75 #[.slice A l.length c,.func (.func g) #[] lb] w fun e w'=>e = .returned (.bool r) ∧ Below w.heap.size w w':=by
  obtain ⟨j,hj,hr2⟩:=idxO_any f l 0 r (Int.le_refl _) h
  have HR:=Aside0.mk hr2
  have HC:=Aside0.mk (fun W hW=>idx109 g lb eg f A c l j W (Kd.C_below hr hW) hc (fun W' x b E1 e1 E2 e2 h1=>hp W' x b E1 e1 E2 e2 (hW.trans (h1.mono hW.size))) hj)
  clear hr hp h hc hj hr2 eg
  go_enter Try.func75,Try.ntmps75
  go_wp2_with fail
  refine (HC.out _ (Below.refl _ _)).mono ?_
  rintro e w' ⟨rfl,hb⟩
  have HB:=Aside0.mk hb
  clear hb HC
  go_wp2
  go_ret
  exact ⟨by rw [HR.out];rfl,HB.out⟩

/-! ### impl_Sign_areUnits_1_any: function 1000000 -/
def impl_Sign_areUnits_1_any.f (k:Nat) (l0:List (S65)) (l1_0:List Int):Option (Bool):=anyO (fun x=>impl_Sign_areUnits_1.f k x.f0 x.f1 x.f2 l1_0) l0
theorem impl_Sign_areUnits_1_any.mono:∀ a0 a1 k,LeO (impl_Sign_areUnits_1_any.f k a0 a1) (impl_Sign_areUnits_1_any.f (k + 1) a0 a1):=by
  intro a0 a1 k
  unfold impl_Sign_areUnits_1_any.f
  exact anyO_mono (fun x=>impl_Sign_areUnits_1.mono _ _ _ _ k) _
theorem impl_Sign_areUnits_1_any.calls (k:Nat) (A0:Option Addr) (c0:Nat) (l0:List (S65)) (A1_0:Option Addr) (c1_0:Nat) (l1_0:List Int) (g1_:Nat) (r:Bool) (w:World) (hr0:Kd.C k65 w A0 l0.length l0) (hc0:l0.length ≤ c0) (hr1_0:Kd.C (Kd.int .i64) w A1_0 l1_0.length l1_0) (hc1_0:l1_0.length ≤ c1_0) (hg1:w.heap[g1_]? = some (.cells #[.slice A1_0 l1_0.length c1_0] 30 (0,0))) (h:impl_Sign_areUnits_1_any.f k l0 l1_0 = some r) :
    Calls Try.prog 75 #[.slice A0 l0.length c0,.func (.func 76) #[] #[.pointer (some ⟨g1_,0,none⟩)]] w fun e w'=>e = .returned (.bool r) ∧ Below w.heap.size w w':=by
  exact any75 76 #[.pointer (some ⟨g1_,0,none⟩)] (enters_of Try.func76 (by kernel_rfl) rfl) (fun x=>impl_Sign_areUnits_1.f k x.f0 x.f1 x.f2 l1_0) A0 c0 l0 r w hr0 hc0 (fun W x b E1 e1 E2 e2 hW hE1 he1 hE2 he2 hx=>(impl_Sign_areUnits_1.calls k x.f0 E1 e1 x.f1 E2 e2 x.f2 g1_ A1_0 c1_0 l1_0 b W hE1 he1 hE2 he2 (Kd.C_below hr1_0 hW) hc1_0 ((hW.block _ (Array.getElem?_eq_some_iff.1 hg1).1).trans hg1) hx).mono fun _ _ h_=>⟨h_.1,h_.2⟩) h

/-! ### impl_Sign_areUnits: function 45 -/
def impl_Sign_areUnits.f (k:Nat) (l0_0:List Int) (l1:List (S65)):Option (Bool):=if (l1.length:Int) ≤ 10 then ((impl_Sign_areUnits_1_any.f k l1 l0_0).bind fun t363=>(some (!t363))) else (some false)
theorem impl_Sign_areUnits.mono:∀ a0 a1 k,LeO (impl_Sign_areUnits.f k a0 a1) (impl_Sign_areUnits.f (k + 1) a0 a1):=by
 intro a0 a1 k
 unfold impl_Sign_areUnits.f
 have m0:=@impl_Sign_areUnits_1_any.mono
 exact mO
set_option maxHeartbeats 8000000 in
set_option maxRecDepth 100000 in
theorem impl_Sign_areUnits.calls (k:Nat) (A0_0:Option Addr) (c0_0:Nat) (l0_0:List Int) (A1:Option Addr) (c1:Nat) (l1:List (S65)) (r:Bool) (w:World) (hr0_0:Kd.C (Kd.int .i64) w A0_0 l0_0.length l0_0) (hc0_0:l0_0.length ≤ c0_0) (hr1:Kd.C k65 w A1 l1.length l1) (hc1:l1.length ≤ c1) (h:impl_Sign_areUnits.f k l0_0 l1 = some r) :
  Calls Try.prog 45 #[.agg #[.slice A0_0 l0_0.length c0_0],.slice A1 l1.length c1] w fun e w'=>e = .returned (.bool r) ∧ Below w.heap.size w w':=by
 have hu30:=Try.underlying30
 have HR0_0:=Aside0.mk hr0_0
 have HC0_0:=Aside0.mk hc0_0
 clear hr0_0 hc0_0
 have HR1:=Aside0.mk hr1
 have HC1:=Aside0.mk hc1
 clear hr1 hc1
 have HB:=Aside0.mk (Below.refl w.heap.size w)
 have H:(if (l1.length:Int) ≤ 10 then ((impl_Sign_areUnits_1_any.f k l1 l0_0).bind fun t363=>(some (!t363))) else (some false)) = some r:=h
 clear h
 by_cases c3:(l1.length:Int) ≤ 10
 ·rw [if_pos c3] at H
  have c3b0:=decide_eq_true c3
  have c3b1:decide (l1.length ≤ 10) = true:=decide_eq_true (by omega)
  clear c3
  replace H:=Option.bind_eq_some_iff.mp H
  obtain ⟨t363,A40,H⟩:=H
  replace H:(some (!t363)) = some r:=H
  have A4:=Aside0.mk A40
  clear A40
  obtain rfl:=Option.some.inj H
  go_enter Try.func45,Try.ntmps45
  go_wp2_with (first|((with_reducible refine gate_dst (N:=2) rfl ?_);refine box_event ?hg (N:=2) ?hd (cs:=#[.slice A0_0 l0_0.length c0_0]) (t:=30) ?hr ?_;(case hd=>rfl);(case hg=>rfl);(case hr=>first|(go_simp;done)|(go_simp;rfl));intro gb362 hg w5 hbox hb;have BK362:=Aside0.mk (hbox);have GW362:=Aside0.mk ((hZ:w.heap.size ≤ gb362));have GE362:=Aside0.mk ((hZ:w.heap.size ≤ gb362));replace HB:=Aside0.mk (below_step bH hb);clear hb hbox hg)|(go_at_call 75;(with_reducible refine (impl_Sign_areUnits_1_any.calls k _ _ l1 A0_0 c0_0 l0_0 gb362 t363 _ ?side1 ?side2 ?side3 ?side4 ?side5 A4.out).mono ?_);(case side1=>exact sC HR1);(case side2=>exact HC1.out);(case side3=>exact sC HR0_0);(case side4=>exact HC0_0.out);(case side5=>(with_reducible repeat (first|refine blk_drewN ?_ _|refine blk_drew ?_|refine blk_alloc ?_ _));exact BK362.out);rintro e w6 ⟨rfl,hb⟩;replace BK362:=Aside0.mk (blk_below (bB BK362) hb);replace HB:=Aside0.mk (below_step bH hb);(try clear hb);(try clear hb2);(try clear hk);(try clear hi)))
  go_ret
  exact ⟨by first|rfl|(simp [errW_none,errW_some] <;> rfl)|(simp [*,errW_none,errW_some] <;> rfl),bH⟩
 ·rw [if_neg c3] at H
  have c3b0:decide ((l1.length:Int) ≤ 10) = false:=decide_eq_false c3
  have c3b1:decide (l1.length ≤ 10) = false:=decide_eq_false (by omega)
  clear c3
  obtain rfl:=Option.some.inj H
  go_enter Try.func45,Try.ntmps45
  go_wp2_with (first|((with_reducible refine gate_dst (N:=2) rfl ?_);refine box_event ?hg (N:=2) ?hd (cs:=#[.slice A0_0 l0_0.length c0_0]) (t:=30) ?hr ?_;(case hd=>rfl);(case hg=>rfl);(case hr=>first|(go_simp;done)|(go_simp;rfl));intro gb362 hg w7 hbox hb;have BK362:=Aside0.mk (hbox);have GW362:=Aside0.mk ((hZ:w.heap.size ≤ gb362));have GE362:=Aside0.mk ((hZ:w.heap.size ≤ gb362));replace HB:=Aside0.mk (below_step bH hb);clear hb hbox hg))
  go_ret
  exact ⟨by first|rfl|(simp [errW_none,errW_some] <;> rfl)|(simp [*,errW_none,errW_some] <;> rfl),bH⟩

/-! ### impl_GoodSign_1: function 97 -/
def impl_GoodSign_1.f (a0:Int):Option (Bool):=if a0 < 0 then (some true) else (some (decide (a0 > 3)))
set_option maxHeartbeats 8000000 in
set_option maxRecDepth 100000 in
theorem impl_GoodSign_1.calls (a0:Int) (r:Bool) (w:World) (h:impl_GoodSign_1.f a0 = some r) :
  Calls Try.prog 97 #[.int .i64 a0] w fun e w'=>e = .returned (.bool r) ∧ Drawn0 w w':=by
 have H:(if a0 < 0 then (some true) else (some (decide (a0 > 3)))) = some r:=h
 clear h
 by_cases c2:a0 < 0
 ·rw [if_pos c2] at H
  have c2b0:=decide_eq_true c2
  clear c2
  obtain rfl:=Option.some.inj H
  go_enter Try.func97,Try.ntmps97
  go_wp2
  go_ret
  exact ⟨by first|rfl|(simp;done)|(simp [*];done),by repeat (first|exact Drawn0.refl _|apply Drawn0.step)⟩
 ·rw [if_neg c2] at H
  have c2b0:decide (a0 < 0) = false:=decide_eq_false c2
  clear c2
  obtain rfl:=Option.some.inj H
  go_enter Try.func97,Try.ntmps97
  go_wp2
  go_ret
  exact ⟨by first|rfl|(simp;done)|(simp [*];done),by repeat (first|exact Drawn0.refl _|apply Drawn0.step)⟩

/-! ### slices_IndexFunc: function 126 -/
set_option maxHeartbeats 2000000 in
set_option maxRecDepth 100000 in
theorem idx126 (g:Nat) (lb:Array Value) (eg:∀ args w,(callFunc g args).run Try.prog w = .ok (.enter g args) w) (f:Int → Option Bool) (A:Option Addr) (c:Nat) (l:List Int) (r:Int) (w:World) (hr:Kd.C (Kd.int .i64) w A l.length l) (hc:l.length ≤ c)
    (hp:∀ (W:World) (x:Int) (b:Bool),Below w.heap.size w W → f x = some b → Calls Try.prog g (#[.int .i64 x] ++ lb) W fun e w'=>e = .returned (.bool b) ∧ Below W.heap.size W w')
    (h:idxO f 0 l = some r) :
    Calls Try.prog 126 #[.slice A l.length c,.func (.func g) #[] lb] w fun e w'=>e = .returned (.int .i64 r) ∧ Below w.heap.size w w':=by
  have HR:=Aside0.mk hr
  have HP:=Aside0.mk hp
  have HL:=Aside0.mk hr.2.1
  have H:=Aside0.mk h
  clear hr hp h hc
  go_enter Try.func126,Try.ntmps126
  go_wp2
  go_loopg [5,8] (l.length + 1) (fun kq _ v8 w'=>∃ kk:Nat,v8 = .int .i64 kk ∧ Aside0 (kk ≤ l.length ∧ l.length + 1 ≤ kq + kk) ∧ Aside0 (idxO f kk (l.drop kk) = some r) ∧ Aside0 (Below w.heap.size w w'))
  case atStart=>exact ⟨0,rfl,⟨Nat.zero_le _,by omega⟩,⟨by simpa using H.out⟩,⟨Below.refl _ _⟩⟩
  case round =>
    obtain ⟨kk,rfl,HK,HI,HB⟩:=hrel
    have hkk:=HK.out.1
    by_cases hlt:kk < l.length
    · have hd:l.drop kk = l[kk] :: l.drop (kk + 1):=List.drop_eq_getElem_cons hlt
      have hi:=HI.out
      rw [hd] at hi
      simp only [idxO] at hi
      obtain ⟨b,hb,hi⟩:=Option.bind_eq_some_iff.1 hi
      have HW:=Aside0.mk (show wrap64 ((kk:Int) + 1) = ((kk + 1:Nat):Int) from by have:=HL.out;unfold wrap64;omega)
      have p:0 ≤ (kk:Int):=by omega
      have q:(kk:Int) < (l.length:Int):=by omega
      have q1:decide (kk < l.length) = true:=decide_eq_true hlt
      have q2:decide ((kk:Int) < (l.length:Int)) = true:=decide_eq_true q
      obtain ⟨ad,e1,hx0⟩:=Kd.at_int HR.out (kk:Int) p q
      cases e1
      have hrd:rd l (kk:Int) = l[kk]:=by unfold rd;simp [List.getD_eq_getElem?_getD,List.getElem?_eq_getElem hlt]
      rw [hrd] at hx0
      clear hrd
      replace hx0:=(HB.out.cell (World.block_lt_of_cell? w _ hx0)).trans hx0
      rw [Int.toNat_natCast] at hx0
      generalize hy:l[kk] = y at hx0 hb
      clear hy hd
      have HC:=Aside0.mk (HP.out wr y b HB.out hb)
      clear HI hkk
      cases b with
      | true =>
        have HE:=Aside0.mk (Option.some.inj hi)
        clear hi hb
        go_wp2_with fail
        refine HC.out.mono ?_
        rintro e w' ⟨rfl,hb'⟩
        have HB2:=Aside0.mk (below_step HB.out hb')
        clear HB hb' HC hx0
        have HB:=HB2
        clear HB2
        go_wp2_with fail
        go_ret
        exact ⟨by rw [← HE.out];rfl,HB.out⟩
      | false =>
        have HE:=Aside0.mk hi
        clear hi hb
        go_wp2_with fail
        refine HC.out.mono ?_
        rintro e w' ⟨rfl,hb'⟩
        have HB2:=Aside0.mk (below_step HB.out hb')
        clear HB hb' HC hx0
        have HB:=HB2
        clear HB2
        go_wp2_with fail
        go_roundg (l.length - kk)
        case measure=>have:=HK.out;omega
        case rel=>exact ⟨kk + 1,by rw [HW.out],⟨by have:=HK.out;omega⟩,⟨by rw [show ((kk + 1:Nat):Int) = (kk:Int) + 1 from by omega];simpa using HE.out⟩,HB⟩
    · have HE:=Aside0.mk (show -1 = r from by have:=HI.out;rw [List.drop_eq_nil_of_le (by omega)] at this;simp [idxO] at this;exact this)
      have q1:decide (kk < l.length) = false:=decide_eq_false hlt
      have q2:decide ((kk:Int) < (l.length:Int)) = false:=decide_eq_false (by omega)
      clear HI hkk
      go_wp2
      go_ret
      exact ⟨by rw [← HE.out];rfl,HB.out⟩

/-! ### slices_ContainsFunc: function 96 -/
set_option maxHeartbeats 2000000 in
theorem any96 (g:Nat) (lb:Array Value) (eg:∀ args w,(callFunc g args).run Try.prog w = .ok (.enter g args) w) (f:Int → Option Bool) (A:Option Addr) (c:Nat) (l:List Int) (r:Bool) (w:World) (hr:Kd.C (Kd.int .i64) w A l.length l) (hc:l.length ≤ c)
    (hp:∀ (W:World) (x:Int) (b:Bool),Below w.heap.size w W → f x = some b → Calls Try.prog g (#[.int .i64 x] ++ lb) W fun e w'=>e = .returned (.bool b) ∧ Below W.heap.size W w')
    (h:anyO f l = some r) :
    Calls Try.prog 96 #[.slice A l.length c,.func (.func g) #[] lb] w fun e w'=>e = .returned (.bool r) ∧ Below w.heap.size w w':=by
  obtain ⟨j,hj,hr2⟩:=idxO_any f l 0 r (Int.le_refl _) h
  have HR:=Aside0.mk hr2
  have HC:=Aside0.mk (fun W hW=>idx126 g lb eg f A c l j W (Kd.C_below hr hW) hc (fun W' x b h1=>hp W' x b (hW.trans (h1.mono hW.size))) hj)
  clear hr hp h hc hj hr2 eg
  go_enter Try.func96,Try.ntmps96
  go_wp2_with fail
  refine (HC.out _ (Below.refl _ _)).mono ?_
  rintro e w' ⟨rfl,hb⟩
  have HB:=Aside0.mk hb
  clear hb HC
  go_wp2
  go_ret
  exact ⟨by rw [HR.out];rfl,HB.out⟩

/-! ### impl_GoodSign_1_any: function 1000001 -/
def impl_GoodSign_1_any.f (l0:List Int):Option (Bool):=anyO (fun x=>impl_GoodSign_1.f x) l0
theorem impl_GoodSign_1_any.calls (A0:Option Addr) (c0:Nat) (l0:List Int) (r:Bool) (w:World) (hr0:Kd.C (Kd.int .i64) w A0 l0.length l0) (hc0:l0.length ≤ c0) (h:impl_GoodSign_1_any.f l0 = some r) :
    Calls Try.prog 96 #[.slice A0 l0.length c0,.func (.func 97) #[] #[]] w fun e w'=>e = .returned (.bool r) ∧ Below w.heap.size w w':=by
  exact any96 97 #[] (enters_of Try.func97 (by kernel_rfl) rfl) (fun x=>impl_GoodSign_1.f x) A0 c0 l0 r w hr0 hc0 (fun W x b hW hx=>(impl_GoodSign_1.calls x b W    hx).mono fun _ _ h_=>⟨h_.1,h_.2.below⟩) h

/-! ### impl_GoodSign: function 64 -/
def impl_GoodSign.f (l0_0:List Int):Option (Bool):=if (l0_0.length:Int) < 1 then (some false) else (if (l0_0.length:Int) > 10 then (some false) else (if 0 < (l0_0.length:Int) then (if (rd l0_0 0) = 0 then ((impl_GoodSign_1_any.f l0_0).bind fun t366=>(some (!t366))) else (some false)) else (none)))
set_option maxHeartbeats 8000000 in
set_option maxRecDepth 100000 in
theorem impl_GoodSign.calls (A0_0:Option Addr) (c0_0:Nat) (l0_0:List Int) (r:Bool) (w:World) (hr0_0:Kd.C (Kd.int .i64) w A0_0 l0_0.length l0_0) (hc0_0:l0_0.length ≤ c0_0) (h:impl_GoodSign.f l0_0 = some r) :
  Calls Try.prog 64 #[.agg #[.slice A0_0 l0_0.length c0_0]] w fun e w'=>e = .returned (.bool r) ∧ Below w.heap.size w w':=by
 have hu30:=Try.underlying30
 have HR0_0:=Aside0.mk hr0_0
 have HC0_0:=Aside0.mk hc0_0
 clear hr0_0 hc0_0
 have HB:=Aside0.mk (Below.refl w.heap.size w)
 have H:(if (l0_0.length:Int) < 1 then (some false) else (if (l0_0.length:Int) > 10 then (some false) else (if 0 < (l0_0.length:Int) then (if (rd l0_0 0) = 0 then ((impl_GoodSign_1_any.f l0_0).bind fun t366=>(some (!t366))) else (some false)) else (none)))) = some r:=h
 clear h
 by_cases c2:(l0_0.length:Int) < 1
 ·rw [if_pos c2] at H
  have c2b0:=decide_eq_true c2
  have c2b1:decide (l0_0.length < 1) = true:=decide_eq_true (by omega)
  clear c2
  obtain rfl:=Option.some.inj H
  go_enter Try.func64,Try.ntmps64
  go_wp2_with (first|((with_reducible refine gate_dst (N:=1) rfl ?_);(try (refine gate_guard (by rfl) ?_;dsimp only));refine box_event ?hg (N:=1) ?hd (cs:=#[.slice A0_0 l0_0.length c0_0]) (t:=30) ?hr ?_;(case hd=>rfl);(case hg=>rfl);(case hr=>first|(go_simp;done)|(go_simp;rfl));intro gb364 hg w3 hbox hb;have BK364:=Aside0.mk (hbox);have GW364:=Aside0.mk ((hZ:w.heap.size ≤ gb364));have GE364:=Aside0.mk ((hZ:w.heap.size ≤ gb364));replace HB:=Aside0.mk (below_step bH hb);clear hb hbox hg;have hcz4_0:w3.cell? ⟨gb364,0,none⟩ = some (.slice A0_0 l0_0.length c0_0):=(blk_cell BK364.out 0).trans rfl;have hfz4_0:=blk_frozen BK364.out 0))
  go_ret
  exact ⟨by first|rfl|(simp [errW_none,errW_some] <;> rfl)|(simp [*,errW_none,errW_some] <;> rfl),bH⟩
 ·rw [if_neg c2] at H
  have c2b0:decide ((l0_0.length:Int) < 1) = false:=decide_eq_false c2
  have c2b1:decide (l0_0.length < 1) = false:=decide_eq_false (by omega)
  clear c2
  by_cases c5:(l0_0.length:Int) > 10
  ·rw [if_pos c5] at H
   have c5b0:decide (10 < (l0_0.length:Int)) = true:=decide_eq_true c5
   have c5b1:decide (10 < l0_0.length) = true:=decide_eq_true (by omega)
   clear c5
   obtain rfl:=Option.some.inj H
   go_enter Try.func64,Try.ntmps64
   go_wp2_with (first|((with_reducible refine gate_dst (N:=1) rfl ?_);(try (refine gate_guard (by rfl) ?_;dsimp only));refine box_event ?hg (N:=1) ?hd (cs:=#[.slice A0_0 l0_0.length c0_0]) (t:=30) ?hr ?_;(case hd=>rfl);(case hg=>rfl);(case hr=>first|(go_simp;done)|(go_simp;rfl));intro gb364 hg w6 hbox hb;have BK364:=Aside0.mk (hbox);have GW364:=Aside0.mk ((hZ:w.heap.size ≤ gb364));have GE364:=Aside0.mk ((hZ:w.heap.size ≤ gb364));replace HB:=Aside0.mk (below_step bH hb);clear hb hbox hg;have hcz7_0:w6.cell? ⟨gb364,0,none⟩ = some (.slice A0_0 l0_0.length c0_0):=(blk_cell BK364.out 0).trans rfl;have hfz7_0:=blk_frozen BK364.out 0))
   go_ret
   exact ⟨by first|rfl|(simp [errW_none,errW_some] <;> rfl)|(simp [*,errW_none,errW_some] <;> rfl),bH⟩
  ·rw [if_neg c5] at H
   have c5b0:decide (10 < (l0_0.length:Int)) = false:=decide_eq_false c5
   have c5b1:decide (10 < l0_0.length) = false:=decide_eq_false (by omega)
   clear c5
   by_cases c8:0 < (l0_0.length:Int)
   ·rw [if_pos c8] at H
    have c8b0:=decide_eq_true c8
    have c8b1:decide (0 < l0_0.length) = true:=decide_eq_true (by omega)
    clear c8
    by_cases c9:(rd l0_0 0) = 0
    ·rw [if_pos c9] at H
     have c9b0:((rd l0_0 0) == 0) = true:=beq_iff_eq.mpr c9
     have c9b1:((rd l0_0 0) != 0) = false:=bne_eq_false_iff_eq.mpr c9
     clear c9
     replace H:=Option.bind_eq_some_iff.mp H
     obtain ⟨t366,A100,H⟩:=H
     replace H:(some (!t366)) = some r:=H
     have A10:=Aside0.mk A100
     clear A100
     obtain rfl:=Option.some.inj H
     go_enter Try.func64,Try.ntmps64
     go_wp2_with (first|((with_reducible refine gate_dst (N:=1) rfl ?_);(try (refine gate_guard (by rfl) ?_;dsimp only));refine box_event ?hg (N:=1) ?hd (cs:=#[.slice A0_0 l0_0.length c0_0]) (t:=30) ?hr ?_;(case hd=>rfl);(case hg=>rfl);(case hr=>first|(go_simp;done)|(go_simp;rfl));intro gb364 hg w11 hbox hb;have BK364:=Aside0.mk (hbox);have GW364:=Aside0.mk ((hZ:w.heap.size ≤ gb364));have GE364:=Aside0.mk ((hZ:w.heap.size ≤ gb364));replace HB:=Aside0.mk (below_step bH hb);clear hb hbox hg;have hcz12_0:w11.cell? ⟨gb364,0,none⟩ = some (.slice A0_0 l0_0.length c0_0):=(blk_cell BK364.out 0).trans rfl;have hfz12_0:=blk_frozen BK364.out 0;have p365:0 ≤ (0:Int):=(by omega);have q365:0 < (l0_0.length:Int):=oD;obtain ⟨ad365,e365,hx365_0⟩:=Kd.at_int HR0_0.out 0 p365 q365;cases e365;have qi365:(0 < l0_0.length) = True:=eq_true (by omega);(try rw [show ((0:Int)).toNat = 0 from rfl] at hx365_0);(try rw [Addr.add_zero'] at hx365_0);replace hx365_0:=(HB.out.cell (World.block_lt_of_cell? w _ hx365_0)).trans hx365_0;replace p365:=eq_true p365;replace q365:=eq_true q365)|(go_at_call 96;(with_reducible refine (impl_GoodSign_1_any.calls _ _ l0_0 t366 _ ?side1 ?side2 A10.out).mono ?_);(case side1=>exact sC HR0_0);(case side2=>exact HC0_0.out);rintro e w13 ⟨rfl,hb⟩;replace BK364:=Aside0.mk (blk_below (bB BK364) hb);replace HB:=Aside0.mk (below_step bH hb);(try clear hb);(try clear hb2);(try clear hk);(try clear hi)))
     go_ret
     exact ⟨by first|rfl|(simp [errW_none,errW_some] <;> rfl)|(simp [*,errW_none,errW_some] <;> rfl),bH⟩
    ·rw [if_neg c9] at H
     have c9b0:((rd l0_0 0) == 0) = false:=beq_eq_false_iff_ne.mpr c9
     have c9b1:((rd l0_0 0) != 0) = true:=bne_iff_ne.mpr c9
     obtain rfl:=Option.some.inj H
     go_enter Try.func64,Try.ntmps64
     go_wp2_with (first|((with_reducible refine gate_dst (N:=1) rfl ?_);(try (refine gate_guard (by rfl) ?_;dsimp only));refine box_event ?hg (N:=1) ?hd (cs:=#[.slice A0_0 l0_0.length c0_0]) (t:=30) ?hr ?_;(case hd=>rfl);(case hg=>rfl);(case hr=>first|(go_simp;done)|(go_simp;rfl));intro gb364 hg w14 hbox hb;have BK364:=Aside0.mk (hbox);have GW364:=Aside0.mk ((hZ:w.heap.size ≤ gb364));have GE364:=Aside0.mk ((hZ:w.heap.size ≤ gb364));replace HB:=Aside0.mk (below_step bH hb);clear hb hbox hg;have hcz15_0:w14.cell? ⟨gb364,0,none⟩ = some (.slice A0_0 l0_0.length c0_0):=(blk_cell BK364.out 0).trans rfl;have hfz15_0:=blk_frozen BK364.out 0;have p365:0 ≤ (0:Int):=(by omega);have q365:0 < (l0_0.length:Int):=oD;obtain ⟨ad365,e365,hx365_0⟩:=Kd.at_int HR0_0.out 0 p365 q365;cases e365;have qi365:(0 < l0_0.length) = True:=eq_true (by omega);(try rw [show ((0:Int)).toNat = 0 from rfl] at hx365_0);(try rw [Addr.add_zero'] at hx365_0);replace hx365_0:=(HB.out.cell (World.block_lt_of_cell? w _ hx365_0)).trans hx365_0;replace p365:=eq_true p365;replace q365:=eq_true q365))
     go_ret
     exact ⟨by first|rfl|(simp [errW_none,errW_some] <;> rfl)|(simp [*,errW_none,errW_some] <;> rfl),bH⟩
   ·rw [if_neg c8] at H
    exact absurd H (by simp)

/-! ### impl_Sign_isClause_1: function 101 -/
def impl_Sign_isClause_1.f (k:Nat) (a0_0:Bool) (l0_1:List Int) (l0_2:List Int) (l1_0:List Int):Option (Bool):=(impl_Sign_isLit.f k l1_0 a0_0 l0_1 l0_2).bind fun t368=>(some (!t368))
theorem impl_Sign_isClause_1.mono:∀ a0 a1 a2 a3 k,LeO (impl_Sign_isClause_1.f k a0 a1 a2 a3) (impl_Sign_isClause_1.f (k + 1) a0 a1 a2 a3):=by
 intro a0 a1 a2 a3 k
 unfold impl_Sign_isClause_1.f
 have m0:=@impl_Sign_isLit.mono
 exact mO
set_option maxHeartbeats 8000000 in
set_option maxRecDepth 100000 in
theorem impl_Sign_isClause_1.calls (k:Nat) (a0_0:Bool) (A0_1:Option Addr) (c0_1:Nat) (l0_1:List Int) (A0_2:Option Addr) (c0_2:Nat) (l0_2:List Int) (g1_:Nat) (A1_0:Option Addr) (c1_0:Nat) (l1_0:List Int) (r:Bool) (w:World) (hr0_1:Kd.C (Kd.int .i64) w A0_1 l0_1.length l0_1) (hc0_1:l0_1.length ≤ c0_1) (hr0_2:Kd.C (Kd.int .i64) w A0_2 l0_2.length l0_2) (hc0_2:l0_2.length ≤ c0_2) (hr1_0:Kd.C (Kd.int .i64) w A1_0 l1_0.length l1_0) (hc1_0:l1_0.length ≤ c1_0) (hg1:w.heap[g1_]? = some (.cells #[.slice A1_0 l1_0.length c1_0] 30 (0,0))) (h:impl_Sign_isClause_1.f k a0_0 l0_1 l0_2 l1_0 = some r) :
  Calls Try.prog 101 #[.agg #[.bool a0_0,.slice A0_1 l0_1.length c0_1,.slice A0_2 l0_2.length c0_2],.pointer (some ⟨g1_,0,none⟩)] w fun e w'=>e = .returned (.bool r) ∧ Below w.heap.size w w':=by
 have hu65:=Try.underlying65
 have hu30:=Try.underlying30
 have HR0_1:=Aside0.mk hr0_1
 have HC0_1:=Aside0.mk hc0_1
 clear hr0_1 hc0_1
 have HR0_2:=Aside0.mk hr0_2
 have HC0_2:=Aside0.mk hc0_2
 clear hr0_2 hc0_2
 have HR1_0:=Aside0.mk hr1_0
 have HC1_0:=Aside0.mk hc1_0
 clear hr1_0 hc1_0
 have BK1:=Aside0.mk hg1
 clear hg1
 have HB:=Aside0.mk (Below.refl w.heap.size w)
 have H:((impl_Sign_isLit.f k l1_0 a0_0 l0_1 l0_2).bind fun t368=>(some (!t368))) = some r:=h
 clear h
 replace H:=Option.bind_eq_some_iff.mp H
 obtain ⟨t368,A30,H⟩:=H
 replace H:(some (!t368)) = some r:=H
 have A3:=Aside0.mk A30
 clear A30
 obtain rfl:=Option.some.inj H
 go_enter Try.func101,Try.ntmps101
 go_wp2_with (first|((with_reducible refine gate_dst (N:=2) rfl ?_);refine box_event ?hg (N:=2) ?hd (cs:=#[.bool a0_0,.slice A0_1 l0_1.length c0_1,.slice A0_2 l0_2.length c0_2]) (t:=65) ?hr ?_;(case hd=>rfl);(case hg=>rfl);(case hr=>first|(go_simp;done)|(go_simp;rfl));intro gb367 hg w4 hbox hb;have BK367:=Aside0.mk (hbox);have GW367:=Aside0.mk ((hZ:w.heap.size ≤ gb367));have GE367:=Aside0.mk ((hZ:w.heap.size ≤ gb367));replace HB:=Aside0.mk (below_step bH hb);have NB1_367:=Aside0.mk ((nL BK1:g1_ ≠ gb367));have NB367_1:=Aside0.mk ((nG BK1:gb367 ≠ g1_));replace BK1:=Aside0.mk (blk_below (bB BK1) hb);clear hb hbox hg;have hnb5:=NB1_367.out;have hnc5:=NB367_1.out;have hcz6_0:w4.cell? ⟨g1_,0,none⟩ = some (.slice A1_0 l1_0.length c1_0):=(blk_cell BK1.out 0).trans rfl;have hfz6_0:=blk_frozen BK1.out 0;have hcz7_0:w4.cell? ⟨gb367,0,none⟩ = some (.bool a0_0):=(blk_cell BK367.out 0).trans rfl;have hcz7_1:w4.cell? ⟨gb367,1,none⟩ = some (.slice A0_1 l0_1.length c0_1):=(blk_cell BK367.out 1).trans rfl;have hcz7_2:w4.cell? ⟨gb367,2,none⟩ = some (.slice A0_2 l0_2.length c0_2):=(blk_cell BK367.out 2).trans rfl;have hfz7_0:=blk_frozen BK367.out 0;have hfz7_1:=blk_frozen BK367.out 1;have hfz7_2:=blk_frozen BK367.out 2)|((with_reducible refine gate_callee (f:=77) rfl ?_);refine goesL_ (some 6) rfl rfl Try.func77 (by kernel_rfl) rfl #[.agg #[.slice A1_0 l1_0.length c1_0],.agg #[.bool a0_0,.slice A0_1 l0_1.length c0_1,.slice A0_2 l0_2.length c0_2]] rfl Ya ?_;(with_reducible refine (impl_Sign_isLit.calls k _ _ l1_0 a0_0 _ _ l0_1 _ _ l0_2 t368 _ ?side1 ?side2 ?side3 ?side4 ?side5 ?side6 A3.out).mono ?_);(case side1=>exact sC HR1_0);(case side2=>exact HC1_0.out);(case side3=>exact sC HR0_1);(case side4=>exact HC0_1.out);(case side5=>exact sC HR0_2);(case side6=>exact HC0_2.out);rintro e w8 ⟨rfl,hb⟩;refine ⟨_,rfl,?_⟩;replace BK1:=Aside0.mk (blk_below (bB BK1) hb);replace BK367:=Aside0.mk (blk_below (bB BK367) hb);replace HB:=Aside0.mk (below_step bH hb);(try clear hb);(try clear hb2);(try clear hk);(try clear hi)))
 go_ret
 exact ⟨by first|rfl|(simp [errW_none,errW_some] <;> rfl)|(simp [*,errW_none,errW_some] <;> rfl),bH⟩


/-! ### impl_Sign_isClause_1_any: function 1000002 -/
def impl_Sign_isClause_1_any.f (k:Nat) (l0:List (S65)) (l1_0:List Int):Option (Bool):=anyO (fun x=>impl_Sign_isClause_1.f k x.f0 x.f1 x.f2 l1_0) l0
theorem impl_Sign_isClause_1_any.mono:∀ a0 a1 k,LeO (impl_Sign_isClause_1_any.f k a0 a1) (impl_Sign_isClause_1_any.f (k + 1) a0 a1):=by
  intro a0 a1 k
  unfold impl_Sign_isClause_1_any.f
  exact anyO_mono (fun x=>impl_Sign_isClause_1.mono _ _ _ _ k) _
theorem impl_Sign_isClause_1_any.calls (k:Nat) (A0:Option Addr) (c0:Nat) (l0:List (S65)) (A1_0:Option Addr) (c1_0:Nat) (l1_0:List Int) (g1_:Nat) (r:Bool) (w:World) (hr0:Kd.C k65 w A0 l0.length l0) (hc0:l0.length ≤ c0) (hr1_0:Kd.C (Kd.int .i64) w A1_0 l1_0.length l1_0) (hc1_0:l1_0.length ≤ c1_0) (hg1:w.heap[g1_]? = some (.cells #[.slice A1_0 l1_0.length c1_0] 30 (0,0))) (h:impl_Sign_isClause_1_any.f k l0 l1_0 = some r) :
    Calls Try.prog 75 #[.slice A0 l0.length c0,.func (.func 101) #[] #[.pointer (some ⟨g1_,0,none⟩)]] w fun e w'=>e = .returned (.bool r) ∧ Below w.heap.size w w':=by
  exact any75 101 #[.pointer (some ⟨g1_,0,none⟩)] (enters_of Try.func101 (by kernel_rfl) rfl) (fun x=>impl_Sign_isClause_1.f k x.f0 x.f1 x.f2 l1_0) A0 c0 l0 r w hr0 hc0 (fun W x b E1 e1 E2 e2 hW hE1 he1 hE2 he2 hx=>(impl_Sign_isClause_1.calls k x.f0 E1 e1 x.f1 E2 e2 x.f2 g1_ A1_0 c1_0 l1_0 b W hE1 he1 hE2 he2 (Kd.C_below hr1_0 hW) hc1_0 ((hW.block _ (Array.getElem?_eq_some_iff.1 hg1).1).trans hg1) hx).mono fun _ _ h_=>⟨h_.1,h_.2⟩) h

/-! ### impl_Sign_isClause: function 67 -/
def impl_Sign_isClause.f (k:Nat) (l0_0:List Int) (l1:List (S65)):Option (Bool):=if (l1.length:Int) ≤ 8 then ((impl_Sign_isClause_1_any.f k l1 l0_0).bind fun t370=>(some (!t370))) else (some false)
theorem impl_Sign_isClause.mono:∀ a0 a1 k,LeO (impl_Sign_isClause.f k a0 a1) (impl_Sign_isClause.f (k + 1) a0 a1):=by
 intro a0 a1 k
 unfold impl_Sign_isClause.f
 have m0:=@impl_Sign_isClause_1_any.mono
 exact mO
set_option maxHeartbeats 8000000 in
set_option maxRecDepth 100000 in
theorem impl_Sign_isClause.calls (k:Nat) (A0_0:Option Addr) (c0_0:Nat) (l0_0:List Int) (A1:Option Addr) (c1:Nat) (l1:List (S65)) (r:Bool) (w:World) (hr0_0:Kd.C (Kd.int .i64) w A0_0 l0_0.length l0_0) (hc0_0:l0_0.length ≤ c0_0) (hr1:Kd.C k65 w A1 l1.length l1) (hc1:l1.length ≤ c1) (h:impl_Sign_isClause.f k l0_0 l1 = some r) :
  Calls Try.prog 67 #[.agg #[.slice A0_0 l0_0.length c0_0],.slice A1 l1.length c1] w fun e w'=>e = .returned (.bool r) ∧ Below w.heap.size w w':=by
 have hu30:=Try.underlying30
 have HR0_0:=Aside0.mk hr0_0
 have HC0_0:=Aside0.mk hc0_0
 clear hr0_0 hc0_0
 have HR1:=Aside0.mk hr1
 have HC1:=Aside0.mk hc1
 clear hr1 hc1
 have HB:=Aside0.mk (Below.refl w.heap.size w)
 have H:(if (l1.length:Int) ≤ 8 then ((impl_Sign_isClause_1_any.f k l1 l0_0).bind fun t370=>(some (!t370))) else (some false)) = some r:=h
 clear h
 by_cases c3:(l1.length:Int) ≤ 8
 ·rw [if_pos c3] at H
  have c3b0:=decide_eq_true c3
  have c3b1:decide (l1.length ≤ 8) = true:=decide_eq_true (by omega)
  clear c3
  replace H:=Option.bind_eq_some_iff.mp H
  obtain ⟨t370,A40,H⟩:=H
  replace H:(some (!t370)) = some r:=H
  have A4:=Aside0.mk A40
  clear A40
  obtain rfl:=Option.some.inj H
  go_enter Try.func67,Try.ntmps67
  go_wp2_with (first|((with_reducible refine gate_dst (N:=2) rfl ?_);refine box_event ?hg (N:=2) ?hd (cs:=#[.slice A0_0 l0_0.length c0_0]) (t:=30) ?hr ?_;(case hd=>rfl);(case hg=>rfl);(case hr=>first|(go_simp;done)|(go_simp;rfl));intro gb369 hg w5 hbox hb;have BK369:=Aside0.mk (hbox);have GW369:=Aside0.mk ((hZ:w.heap.size ≤ gb369));have GE369:=Aside0.mk ((hZ:w.heap.size ≤ gb369));replace HB:=Aside0.mk (below_step bH hb);clear hb hbox hg)|(go_at_call 75;(with_reducible refine (impl_Sign_isClause_1_any.calls k _ _ l1 A0_0 c0_0 l0_0 gb369 t370 _ ?side1 ?side2 ?side3 ?side4 ?side5 A4.out).mono ?_);(case side1=>exact sC HR1);(case side2=>exact HC1.out);(case side3=>exact sC HR0_0);(case side4=>exact HC0_0.out);(case side5=>(with_reducible repeat (first|refine blk_drewN ?_ _|refine blk_drew ?_|refine blk_alloc ?_ _));exact BK369.out);rintro e w6 ⟨rfl,hb⟩;replace BK369:=Aside0.mk (blk_below (bB BK369) hb);replace HB:=Aside0.mk (below_step bH hb);(try clear hb);(try clear hb2);(try clear hk);(try clear hi)))
  go_ret
  exact ⟨by first|rfl|(simp [errW_none,errW_some] <;> rfl)|(simp [*,errW_none,errW_some] <;> rfl),bH⟩
 ·rw [if_neg c3] at H
  have c3b0:decide ((l1.length:Int) ≤ 8) = false:=decide_eq_false c3
  have c3b1:decide (l1.length ≤ 8) = false:=decide_eq_false (by omega)
  clear c3
  obtain rfl:=Option.some.inj H
  go_enter Try.func67,Try.ntmps67
  go_wp2_with (first|((with_reducible refine gate_dst (N:=2) rfl ?_);refine box_event ?hg (N:=2) ?hd (cs:=#[.slice A0_0 l0_0.length c0_0]) (t:=30) ?hr ?_;(case hd=>rfl);(case hg=>rfl);(case hr=>first|(go_simp;done)|(go_simp;rfl));intro gb369 hg w7 hbox hb;have BK369:=Aside0.mk (hbox);have GW369:=Aside0.mk ((hZ:w.heap.size ≤ gb369));have GE369:=Aside0.mk ((hZ:w.heap.size ≤ gb369));replace HB:=Aside0.mk (below_step bH hb);clear hb hbox hg))
  go_ret
  exact ⟨by first|rfl|(simp [errW_none,errW_some] <;> rfl)|(simp [*,errW_none,errW_some] <;> rfl),bH⟩

/-! ### impl_GoodClause: function 52 -/
def impl_GoodClause.f (k:Nat) (l0_0:List Int) (l1:List (S65)):Option (Bool):=(impl_GoodSign.f l0_0).bind fun t372=>(if t372 = true then ((impl_Sign_isClause.f k l0_0 l1).bind fun t373=>(some t373)) else (some false))
theorem impl_GoodClause.mono:∀ a0 a1 k,LeO (impl_GoodClause.f k a0 a1) (impl_GoodClause.f (k + 1) a0 a1):=by
 intro a0 a1 k
 unfold impl_GoodClause.f
 have m0:=@impl_Sign_isClause.mono
 exact mO
set_option maxHeartbeats 8000000 in
set_option maxRecDepth 100000 in
theorem impl_GoodClause.calls (k:Nat) (A0_0:Option Addr) (c0_0:Nat) (l0_0:List Int) (A1:Option Addr) (c1:Nat) (l1:List (S65)) (r:Bool) (w:World) (hr0_0:Kd.C (Kd.int .i64) w A0_0 l0_0.length l0_0) (hc0_0:l0_0.length ≤ c0_0) (hr1:Kd.C k65 w A1 l1.length l1) (hc1:l1.length ≤ c1) (h:impl_GoodClause.f k l0_0 l1 = some r) :
  Calls Try.prog 52 #[.agg #[.slice A0_0 l0_0.length c0_0],.slice A1 l1.length c1] w fun e w'=>e = .returned (.bool r) ∧ Below w.heap.size w w':=by
 have hu30:=Try.underlying30
 have HR0_0:=Aside0.mk hr0_0
 have HC0_0:=Aside0.mk hc0_0
 clear hr0_0 hc0_0
 have HR1:=Aside0.mk hr1
 have HC1:=Aside0.mk hc1
 clear hr1 hc1
 have HB:=Aside0.mk (Below.refl w.heap.size w)
 have H:((impl_GoodSign.f l0_0).bind fun t372=>(if t372 = true then ((impl_Sign_isClause.f k l0_0 l1).bind fun t373=>(some t373)) else (some false))) = some r:=h
 clear h
 replace H:=Option.bind_eq_some_iff.mp H
 obtain ⟨t372,A30,H⟩:=H
 replace H:(if t372 = true then ((impl_Sign_isClause.f k l0_0 l1).bind fun t373=>(some t373)) else (some false)) = some r:=H
 have A3:=Aside0.mk A30
 clear A30
 by_cases c4:t372 = true
 ·subst c4
  have H1:((impl_Sign_isClause.f k l0_0 l1).bind fun t373=>(some t373)) = some r:=by rw [if_pos rfl] at H;exact H
  clear H
  have H:=H1
  clear H1
  replace H:=Option.bind_eq_some_iff.mp H
  obtain ⟨t373,A50,H⟩:=H
  replace H:(some t373) = some r:=H
  have A5:=Aside0.mk A50
  clear A50
  obtain rfl:=Option.some.inj H
  go_enter Try.func52,Try.ntmps52
  go_wp2_with (first|((with_reducible refine gate_dst (N:=2) rfl ?_);refine box_event ?hg (N:=2) ?hd (cs:=#[.slice A0_0 l0_0.length c0_0]) (t:=30) ?hr ?_;(case hd=>rfl);(case hg=>rfl);(case hr=>first|(go_simp;done)|(go_simp;rfl));intro gb371 hg w6 hbox hb;have BK371:=Aside0.mk (hbox);have GW371:=Aside0.mk ((hZ:w.heap.size ≤ gb371));have GE371:=Aside0.mk ((hZ:w.heap.size ≤ gb371));replace HB:=Aside0.mk (below_step bH hb);clear hb hbox hg;have hcz7_0:w6.cell? ⟨gb371,0,none⟩ = some (.slice A0_0 l0_0.length c0_0):=(blk_cell BK371.out 0).trans rfl;have hfz7_0:=blk_frozen BK371.out 0)|((with_reducible refine gate_callee (f:=64) rfl ?_);refine goesL_ (some 6) rfl rfl Try.func64 (by kernel_rfl) rfl #[.agg #[.slice A0_0 l0_0.length c0_0]] rfl Ya ?_;(with_reducible refine (impl_GoodSign.calls _ _ l0_0 true _ ?side1 ?side2 A3.out).mono ?_);(case side1=>exact sC HR0_0);(case side2=>exact HC0_0.out);rintro e w8 ⟨rfl,hb⟩;refine ⟨_,rfl,?_⟩;replace BK371:=Aside0.mk (blk_below (bB BK371) hb);replace HB:=Aside0.mk (below_step bH hb);(try clear hb);(try clear hb2);(try clear hk);(try clear hi);have hcz9_0:w8.cell? ⟨gb371,0,none⟩ = some (.slice A0_0 l0_0.length c0_0):=(blk_cell BK371.out 0).trans rfl;have hfz9_0:=blk_frozen BK371.out 0)|(go_at_call 67;(with_reducible refine (impl_Sign_isClause.calls k _ _ l0_0 _ _ l1 t373 _ ?side1 ?side2 ?side3 ?side4 A5.out).mono ?_);(case side1=>exact sC HR0_0);(case side2=>exact HC0_0.out);(case side3=>exact sC HR1);(case side4=>exact HC1.out);rintro e w10 ⟨rfl,hb⟩;replace BK371:=Aside0.mk (blk_below (bB BK371) hb);replace HB:=Aside0.mk (below_step bH hb);(try clear hb);(try clear hb2);(try clear hk);(try clear hi)))
  go_ret
  exact ⟨by first|rfl|(simp [errW_none,errW_some] <;> rfl)|(simp [*,errW_none,errW_some] <;> rfl),bH⟩
 ·replace c4:=Bool.eq_false_iff.mpr c4
  subst c4
  have H1:(some false) = some r:=by rw [if_neg (show ¬ (false = true) by decide)] at H;exact H
  clear H
  have H:=H1
  clear H1
  obtain rfl:=Option.some.inj H
  go_enter Try.func52,Try.ntmps52
  go_wp2_with (first|((with_reducible refine gate_dst (N:=2) rfl ?_);refine box_event ?hg (N:=2) ?hd (cs:=#[.slice A0_0 l0_0.length c0_0]) (t:=30) ?hr ?_;(case hd=>rfl);(case hg=>rfl);(case hr=>first|(go_simp;done)|(go_simp;rfl));intro gb371 hg w11 hbox hb;have BK371:=Aside0.mk (hbox);have GW371:=Aside0.mk ((hZ:w.heap.size ≤ gb371));have GE371:=Aside0.mk ((hZ:w.heap.size ≤ gb371));replace HB:=Aside0.mk (below_step bH hb);clear hb hbox hg;have hcz12_0:w11.cell? ⟨gb371,0,none⟩ = some (.slice A0_0 l0_0.length c0_0):=(blk_cell BK371.out 0).trans rfl;have hfz12_0:=blk_frozen BK371.out 0)|((with_reducible refine gate_callee (f:=64) rfl ?_);refine goesL_ (some 6) rfl rfl Try.func64 (by kernel_rfl) rfl #[.agg #[.slice A0_0 l0_0.length c0_0]] rfl Ya ?_;(with_reducible refine (impl_GoodSign.calls _ _ l0_0 false _ ?side1 ?side2 A3.out).mono ?_);(case side1=>exact sC HR0_0);(case side2=>exact HC0_0.out);rintro e w13 ⟨rfl,hb⟩;refine ⟨_,rfl,?_⟩;replace BK371:=Aside0.mk (blk_below (bB BK371) hb);replace HB:=Aside0.mk (below_step bH hb);(try clear hb);(try clear hb2);(try clear hk);(try clear hi)))
  go_ret
  exact ⟨by first|rfl|(simp [errW_none,errW_some] <;> rfl)|(simp [*,errW_none,errW_some] <;> rfl),bH⟩

/-! ### slices_Clone_int_int_83: function 83, by the kit's own contract -/
open Go.Shelf in
shelf_lay Lays2.n15 Nm2 15 at Try as Try.laysCloneLays2n15
theorem Try.flaysCloneLays2n15:Try.laysCloneLays2n15_ren.f 15 = 83:=by kernel_rfl
theorem Try.tlaysCloneLays2n15:Try.laysCloneLays2n15_ren.t 3 = 3:=by kernel_rfl
def slices_Clone_int_int_83.f (l0:List Int):Option (List Int):=if l0.length ≤ 17592186044416 then some l0 else none
theorem slices_Clone_int_int_83.calls (A0:Option Addr) (c0:Nat) (l0:List Int) (r:List Int) (w:World) (hr0:Kd.C (Kd.int .i64) w A0 l0.length l0) (hc0:l0.length ≤ c0) (h:slices_Clone_int_int_83.f l0 = some r) :
    Calls Try.prog 83 #[.slice A0 l0.length c0] w fun e w'=>∃ v0_:Value,e = .returned (v0_) ∧ Kd.R (Kd.int .i64) 3 w' w.heap.size (fun _=>True) v0_ r ∧ Below w.heap.size w w':=by
  unfold slices_Clone_int_int_83.f at h
  split at h
  · rename_i hn
    obtain rfl:=Option.some.inj h
    have hR:ReadsOf (Value.int .i64) 0 w A0 l0.length l0:=Kd.reads_of_C hr0
    rcases A0 with _|⟨b,off,sp⟩
    · have h0:l0 = []:=by
        rcases Nat.eq_zero_or_pos l0.length with h|h
        · exact List.eq_nil_of_length_eq_zero h
        · obtain ⟨ad,e,_⟩:=hR.2.2 h
          cases e
      subst h0
      have h':=Any.slices_Clone_int_nil Try.laysCloneLays2n15 0 c0 w
      rw [Try.flaysCloneLays2n15] at h'
      exact h'.mono fun e w' ⟨he,hw⟩=>⟨_,he,Kd.R_nil _ _ _ _ _,hw ▸ Below.refl _ _⟩
    · rcases Nat.eq_zero_or_pos l0.length with h0|h0
      · obtain rfl:l0 = []:=List.eq_nil_of_length_eq_zero h0
        have h':=Any.slices_Clone_int_zero Try.laysCloneLays2n15 ⟨b,off,sp⟩ c0 w
        rw [Try.flaysCloneLays2n15,Try.tlaysCloneLays2n15] at h'
        exact h'.mono fun e w' ⟨v,he,ho,_,hb⟩=>⟨v,he,Kd.R_of_own (enc:=(Value.int .i64)) (h1:=fun _=>rfl) ho (fun _ _=>trivial),hb⟩
      · obtain ⟨ad,e,hc⟩:=hR.2.2 h0
        injection e with e
        subst e
        have hsp:sp = none:=by
          have h1:=hc 0 h0
          cases sp with
          | none=>rfl
          | some x=>simp [Addr.add,World.cell?] at h1;split at h1 <;> simp at h1
        subst hsp
        have h':=Any.slices_Clone_int Try.laysCloneLays2n15 b off l0.length c0 l0 w (Nat.le_refl _) (by omega) (fun j hj=>(Addr.add_lit b off j) ▸ hc j hj)
        rw [Try.flaysCloneLays2n15,Try.tlaysCloneLays2n15,List.take_length] at h'
        exact h'.mono fun e w' ⟨v,he,ho,_,hb⟩=>⟨v,he,Kd.R_of_own (enc:=(Value.int .i64)) (h1:=fun _=>rfl) ho (fun _ _=>trivial),hb⟩
  · simp at h

end Go.Proofs.Ytlgnanbnicmdaab.QFnExactNormalClause
