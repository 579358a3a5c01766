-- Written by this session's own program (wip/x/xprint.py, over the kit's printer); Lean checks it.
import Derived.Test.YtlgnanbnicmdaabQFnExactReadClausex0
import Derived.Test.YtlgnanbnicmdaabQFnExactReadClausex6
import Derived.Test.YtlgnanbnicmdaabQFnExactReadClausex8
namespace Go.Proofs.Ytlgnanbnicmdaab.QFnExactReadClause
open Go.RowKit Go.Proofs.YtlgnanbnicmdaabW.PrintWords Go.Proofs.YtlgnanbnicmdaabW.PrintLast Go.Proofs.YtlgnanbnicmdaabW.PrintMore
attribute [local go_sem] max2_int min2_int max_two min_two max_three min_three max_four min_four   -- for this text's walks alone
set_option linter.unusedVariables false
set_option linter.unusedSimpArgs false

/-! ### impl_Sign_isLit: function 77 -/
def impl_Sign_isLit.f (k:Nat) (l0_0:List Int) (a1_0:Bool) (l1_1:List Int) (l1_2:List Int):Option (Bool):=(impl_Sign_isTerm.f k l0_0 l1_1).bind fun t291=>(if t291 = true then ((impl_Sign_isTerm.f k l0_0 l1_2).bind fun t292=>(some t292)) else (some false))
theorem impl_Sign_isLit.mono:∀ a0 a1 a2 a3 k,LeO (impl_Sign_isLit.f k a0 a1 a2 a3) (impl_Sign_isLit.f (k + 1) a0 a1 a2 a3):=by
 intro a0 a1 a2 a3 k
 unfold impl_Sign_isLit.f
 have m0:=@impl_Sign_isTerm.mono
 exact mO
set_option maxHeartbeats 8000000 in
set_option maxRecDepth 100000 in
theorem impl_Sign_isLit.calls (k:Nat) (A0_0:Option Addr) (c0_0:Nat) (l0_0:List Int) (a1_0:Bool) (A1_1:Option Addr) (c1_1:Nat) (l1_1:List Int) (A1_2:Option Addr) (c1_2:Nat) (l1_2:List Int) (r:Bool) (w:World) (hr0_0:Kd.C (Kd.int .i64) w A0_0 l0_0.length l0_0) (hc0_0:l0_0.length ≤ c0_0) (hr1_1:Kd.C (Kd.int .i64) w A1_1 l1_1.length l1_1) (hc1_1:l1_1.length ≤ c1_1) (hr1_2:Kd.C (Kd.int .i64) w A1_2 l1_2.length l1_2) (hc1_2:l1_2.length ≤ c1_2) (h:impl_Sign_isLit.f k l0_0 a1_0 l1_1 l1_2 = some r) :
  Calls Try.prog 77 #[.agg #[.slice A0_0 l0_0.length c0_0],.agg #[.bool a1_0,.slice A1_1 l1_1.length c1_1,.slice A1_2 l1_2.length c1_2]] w fun e w'=>e = .returned (.bool r) ∧ Below w.heap.size w w':=by
 have hu30:=Try.underlying30
 have hu65:=Try.underlying65
 have HR0_0:=Aside0.mk hr0_0
 have HC0_0:=Aside0.mk hc0_0
 clear hr0_0 hc0_0
 have HR1_1:=Aside0.mk hr1_1
 have HC1_1:=Aside0.mk hc1_1
 clear hr1_1 hc1_1
 have HR1_2:=Aside0.mk hr1_2
 have HC1_2:=Aside0.mk hc1_2
 clear hr1_2 hc1_2
 have HB:=Aside0.mk (Below.refl w.heap.size w)
 have H:((impl_Sign_isTerm.f k l0_0 l1_1).bind fun t291=>(if t291 = true then ((impl_Sign_isTerm.f k l0_0 l1_2).bind fun t292=>(some t292)) else (some false))) = some r:=h
 clear h
 replace H:=Option.bind_eq_some_iff.mp H
 obtain ⟨t291,A30,H⟩:=H
 replace H:(if t291 = true then ((impl_Sign_isTerm.f k l0_0 l1_2).bind fun t292=>(some t292)) else (some false)) = some r:=H
 have A3:=Aside0.mk A30
 clear A30
 by_cases c4:t291 = true
 ·subst c4
  have H1:((impl_Sign_isTerm.f k l0_0 l1_2).bind fun t292=>(some t292)) = some r:=by rw [if_pos rfl] at H;exact H
  clear H
  have H:=H1
  clear H1
  replace H:=Option.bind_eq_some_iff.mp H
  obtain ⟨t292,A50,H⟩:=H
  replace H:(some t292) = some r:=H
  have A5:=Aside0.mk A50
  clear A50
  obtain rfl:=Option.some.inj H
  go_enter Try.func77,Try.ntmps77
  go_wp2_with (first|((with_reducible refine gate_dst (N:=2) rfl ?_);refine box_event ?hg (N:=2) ?hd (cs:=#[.slice A0_0 l0_0.length c0_0]) (t:=30) ?hr ?_;(case hd=>rfl);(case hg=>rfl);(case hr=>first|(go_simp;done)|(go_simp;rfl));intro gb289 hg w6 hbox hb;have BK289:=Aside0.mk (hbox);have GW289:=Aside0.mk ((hZ:w.heap.size ≤ gb289));have GE289:=Aside0.mk ((hZ:w.heap.size ≤ gb289));replace HB:=Aside0.mk (below_step bH hb);clear hb hbox hg)|((with_reducible refine gate_dst (N:=3) rfl ?_);refine box_event ?hg (N:=3) ?hd (cs:=#[.bool a1_0,.slice A1_1 l1_1.length c1_1,.slice A1_2 l1_2.length c1_2]) (t:=65) ?hr ?_;(case hd=>rfl);(case hg=>rfl);(case hr=>first|(go_simp;done)|(go_simp;rfl));intro gb290 hg w7 hbox hb;have BK290:=Aside0.mk (hbox);have GW290:=Aside0.mk ((hZ:w.heap.size ≤ gb290));have GE290:=Aside0.mk ((hZ:w.heap.size ≤ gb290));replace HB:=Aside0.mk (below_step bH hb);have NB289_290:=Aside0.mk ((nL BK289:gb289 ≠ gb290));have NB290_289:=Aside0.mk ((nG BK289:gb290 ≠ gb289));replace BK289:=Aside0.mk (blk_below (bB BK289) hb);clear hb hbox hg;have hnb8:=NB289_290.out;have hnc8:=NB290_289.out;have hcz9_0:w7.cell? ⟨gb289,0,none⟩ = some (.slice A0_0 l0_0.length c0_0):=(blk_cell BK289.out 0).trans rfl;have hfz9_0:=blk_frozen BK289.out 0;have hcz10_0:w7.cell? ⟨gb290,0,none⟩ = some (.bool a1_0):=(blk_cell BK290.out 0).trans rfl;have hcz10_1:w7.cell? ⟨gb290,1,none⟩ = some (.slice A1_1 l1_1.length c1_1):=(blk_cell BK290.out 1).trans rfl;have hcz10_2:w7.cell? ⟨gb290,2,none⟩ = some (.slice A1_2 l1_2.length c1_2):=(blk_cell BK290.out 2).trans rfl;have hfz10_0:=blk_frozen BK290.out 0;have hfz10_1:=blk_frozen BK290.out 1;have hfz10_2:=blk_frozen BK290.out 2)|((with_reducible refine gate_callee (f:=74) rfl ?_);refine goesL_ (some 8) rfl rfl Try.func74 (by kernel_rfl) rfl #[.agg #[.slice A0_0 l0_0.length c0_0],.slice A1_1 l1_1.length c1_1] rfl Ya ?_;(with_reducible refine (impl_Sign_isTerm.calls k _ _ l0_0 _ _ l1_1 true _ ?side1 ?side2 ?side3 ?side4 A3.out).mono ?_);(case side1=>exact sC HR0_0);(case side2=>exact HC0_0.out);(case side3=>exact sC HR1_1);(case side4=>exact HC1_1.out);rintro e w11 ⟨rfl,hb⟩;refine ⟨_,rfl,?_⟩;replace BK289:=Aside0.mk (blk_below (bB BK289) hb);replace BK290:=Aside0.mk (blk_below (bB BK290) hb);replace HB:=Aside0.mk (below_step bH hb);(try clear hb);(try clear hb2);(try clear hk);(try clear hi);have hcz12_0:w11.cell? ⟨gb289,0,none⟩ = some (.slice A0_0 l0_0.length c0_0):=(blk_cell BK289.out 0).trans rfl;have hfz12_0:=blk_frozen BK289.out 0;have hcz13_0:w11.cell? ⟨gb290,0,none⟩ = some (.bool a1_0):=(blk_cell BK290.out 0).trans rfl;have hcz13_1:w11.cell? ⟨gb290,1,none⟩ = some (.slice A1_1 l1_1.length c1_1):=(blk_cell BK290.out 1).trans rfl;have hcz13_2:w11.cell? ⟨gb290,2,none⟩ = some (.slice A1_2 l1_2.length c1_2):=(blk_cell BK290.out 2).trans rfl;have hfz13_0:=blk_frozen BK290.out 0;have hfz13_1:=blk_frozen BK290.out 1;have hfz13_2:=blk_frozen BK290.out 2)|(go_at_call 74;(with_reducible refine (impl_Sign_isTerm.calls k _ _ l0_0 _ _ l1_2 t292 _ ?side1 ?side2 ?side3 ?side4 A5.out).mono ?_);(case side1=>exact sC HR0_0);(case side2=>exact HC0_0.out);(case side3=>exact sC HR1_2);(case side4=>exact HC1_2.out);rintro e w14 ⟨rfl,hb⟩;replace BK289:=Aside0.mk (blk_below (bB BK289) hb);replace BK290:=Aside0.mk (blk_below (bB BK290) hb);replace HB:=Aside0.mk (below_step bH hb);(try clear hb);(try clear hb2);(try clear hk);(try clear hi)))
  go_ret
  exact ⟨by first|rfl|(simp [errW_none,errW_some] <;> rfl)|(simp [*,errW_none,errW_some] <;> rfl),bH⟩
 ·replace c4:=Bool.eq_false_iff.mpr c4
  subst c4
  have H1:(some false) = some r:=by rw [if_neg (show ¬ (false = true) by decide)] at H;exact H
  clear H
  have H:=H1
  clear H1
  obtain rfl:=Option.some.inj H
  go_enter Try.func77,Try.ntmps77
  go_wp2_with (first|((with_reducible refine gate_dst (N:=2) rfl ?_);refine box_event ?hg (N:=2) ?hd (cs:=#[.slice A0_0 l0_0.length c0_0]) (t:=30) ?hr ?_;(case hd=>rfl);(case hg=>rfl);(case hr=>first|(go_simp;done)|(go_simp;rfl));intro gb289 hg w15 hbox hb;have BK289:=Aside0.mk (hbox);have GW289:=Aside0.mk ((hZ:w.heap.size ≤ gb289));have GE289:=Aside0.mk ((hZ:w.heap.size ≤ gb289));replace HB:=Aside0.mk (below_step bH hb);clear hb hbox hg)|((with_reducible refine gate_dst (N:=3) rfl ?_);refine box_event ?hg (N:=3) ?hd (cs:=#[.bool a1_0,.slice A1_1 l1_1.length c1_1,.slice A1_2 l1_2.length c1_2]) (t:=65) ?hr ?_;(case hd=>rfl);(case hg=>rfl);(case hr=>first|(go_simp;done)|(go_simp;rfl));intro gb290 hg w16 hbox hb;have BK290:=Aside0.mk (hbox);have GW290:=Aside0.mk ((hZ:w.heap.size ≤ gb290));have GE290:=Aside0.mk ((hZ:w.heap.size ≤ gb290));replace HB:=Aside0.mk (below_step bH hb);have NB289_290:=Aside0.mk ((nL BK289:gb289 ≠ gb290));have NB290_289:=Aside0.mk ((nG BK289:gb290 ≠ gb289));replace BK289:=Aside0.mk (blk_below (bB BK289) hb);clear hb hbox hg;have hnb17:=NB289_290.out;have hnc17:=NB290_289.out;have hcz18_0:w16.cell? ⟨gb289,0,none⟩ = some (.slice A0_0 l0_0.length c0_0):=(blk_cell BK289.out 0).trans rfl;have hfz18_0:=blk_frozen BK289.out 0;have hcz19_0:w16.cell? ⟨gb290,0,none⟩ = some (.bool a1_0):=(blk_cell BK290.out 0).trans rfl;have hcz19_1:w16.cell? ⟨gb290,1,none⟩ = some (.slice A1_1 l1_1.length c1_1):=(blk_cell BK290.out 1).trans rfl;have hcz19_2:w16.cell? ⟨gb290,2,none⟩ = some (.slice A1_2 l1_2.length c1_2):=(blk_cell BK290.out 2).trans rfl;have hfz19_0:=blk_frozen BK290.out 0;have hfz19_1:=blk_frozen BK290.out 1;have hfz19_2:=blk_frozen BK290.out 2)|((with_reducible refine gate_callee (f:=74) rfl ?_);refine goesL_ (some 8) rfl rfl Try.func74 (by kernel_rfl) rfl #[.agg #[.slice A0_0 l0_0.length c0_0],.slice A1_1 l1_1.length c1_1] rfl Ya ?_;(with_reducible refine (impl_Sign_isTerm.calls k _ _ l0_0 _ _ l1_1 false _ ?side1 ?side2 ?side3 ?side4 A3.out).mono ?_);(case side1=>exact sC HR0_0);(case side2=>exact HC0_0.out);(case side3=>exact sC HR1_1);(case side4=>exact HC1_1.out);rintro e w20 ⟨rfl,hb⟩;refine ⟨_,rfl,?_⟩;replace BK289:=Aside0.mk (blk_below (bB BK289) hb);replace BK290:=Aside0.mk (blk_below (bB BK290) hb);replace HB:=Aside0.mk (below_step bH hb);(try clear hb);(try clear hb2);(try clear hk);(try clear hi)))
  go_ret
  exact ⟨by first|rfl|(simp [errW_none,errW_some] <;> rfl)|(simp [*,errW_none,errW_some] <;> rfl),bH⟩

/-! ### impl_Sign_isClause_1: function 101 -/
def impl_Sign_isClause_1.f (k:Nat) (a0_0:Bool) (l0_1:List Int) (l0_2:List Int) (l1_0:List Int):Option (Bool):=(impl_Sign_isLit.f k l1_0 a0_0 l0_1 l0_2).bind fun t294=>(some (!t294))
theorem impl_Sign_isClause_1.mono:∀ a0 a1 a2 a3 k,LeO (impl_Sign_isClause_1.f k a0 a1 a2 a3) (impl_Sign_isClause_1.f (k + 1) a0 a1 a2 a3):=by
 intro a0 a1 a2 a3 k
 unfold impl_Sign_isClause_1.f
 have m0:=@impl_Sign_isLit.mono
 exact mO
set_option maxHeartbeats 8000000 in
set_option maxRecDepth 100000 in
theorem impl_Sign_isClause_1.calls (k:Nat) (a0_0:Bool) (A0_1:Option Addr) (c0_1:Nat) (l0_1:List Int) (A0_2:Option Addr) (c0_2:Nat) (l0_2:List Int) (g1_:Nat) (A1_0:Option Addr) (c1_0:Nat) (l1_0:List Int) (r:Bool) (w:World) (hr0_1:Kd.C (Kd.int .i64) w A0_1 l0_1.length l0_1) (hc0_1:l0_1.length ≤ c0_1) (hr0_2:Kd.C (Kd.int .i64) w A0_2 l0_2.length l0_2) (hc0_2:l0_2.length ≤ c0_2) (hr1_0:Kd.C (Kd.int .i64) w A1_0 l1_0.length l1_0) (hc1_0:l1_0.length ≤ c1_0) (hg1:w.heap[g1_]? = some (.cells #[.slice A1_0 l1_0.length c1_0] 30 (0,0))) (h:impl_Sign_isClause_1.f k a0_0 l0_1 l0_2 l1_0 = some r) :
  Calls Try.prog 101 #[.agg #[.bool a0_0,.slice A0_1 l0_1.length c0_1,.slice A0_2 l0_2.length c0_2],.pointer (some ⟨g1_,0,none⟩)] w fun e w'=>e = .returned (.bool r) ∧ Below w.heap.size w w':=by
 have hu65:=Try.underlying65
 have hu30:=Try.underlying30
 have HR0_1:=Aside0.mk hr0_1
 have HC0_1:=Aside0.mk hc0_1
 clear hr0_1 hc0_1
 have HR0_2:=Aside0.mk hr0_2
 have HC0_2:=Aside0.mk hc0_2
 clear hr0_2 hc0_2
 have HR1_0:=Aside0.mk hr1_0
 have HC1_0:=Aside0.mk hc1_0
 clear hr1_0 hc1_0
 have BK1:=Aside0.mk hg1
 clear hg1
 have HB:=Aside0.mk (Below.refl w.heap.size w)
 have H:((impl_Sign_isLit.f k l1_0 a0_0 l0_1 l0_2).bind fun t294=>(some (!t294))) = some r:=h
 clear h
 replace H:=Option.bind_eq_some_iff.mp H
 obtain ⟨t294,A30,H⟩:=H
 replace H:(some (!t294)) = some r:=H
 have A3:=Aside0.mk A30
 clear A30
 obtain rfl:=Option.some.inj H
 go_enter Try.func101,Try.ntmps101
 go_wp2_with (first|((with_reducible refine gate_dst (N:=2) rfl ?_);refine box_event ?hg (N:=2) ?hd (cs:=#[.bool a0_0,.slice A0_1 l0_1.length c0_1,.slice A0_2 l0_2.length c0_2]) (t:=65) ?hr ?_;(case hd=>rfl);(case hg=>rfl);(case hr=>first|(go_simp;done)|(go_simp;rfl));intro gb293 hg w4 hbox hb;have BK293:=Aside0.mk (hbox);have GW293:=Aside0.mk ((hZ:w.heap.size ≤ gb293));have GE293:=Aside0.mk ((hZ:w.heap.size ≤ gb293));replace HB:=Aside0.mk (below_step bH hb);have NB1_293:=Aside0.mk ((nL BK1:g1_ ≠ gb293));have NB293_1:=Aside0.mk ((nG BK1:gb293 ≠ g1_));replace BK1:=Aside0.mk (blk_below (bB BK1) hb);clear hb hbox hg;have hnb5:=NB1_293.out;have hnc5:=NB293_1.out;have hcz6_0:w4.cell? ⟨g1_,0,none⟩ = some (.slice A1_0 l1_0.length c1_0):=(blk_cell BK1.out 0).trans rfl;have hfz6_0:=blk_frozen BK1.out 0;have hcz7_0:w4.cell? ⟨gb293,0,none⟩ = some (.bool a0_0):=(blk_cell BK293.out 0).trans rfl;have hcz7_1:w4.cell? ⟨gb293,1,none⟩ = some (.slice A0_1 l0_1.length c0_1):=(blk_cell BK293.out 1).trans rfl;have hcz7_2:w4.cell? ⟨gb293,2,none⟩ = some (.slice A0_2 l0_2.length c0_2):=(blk_cell BK293.out 2).trans rfl;have hfz7_0:=blk_frozen BK293.out 0;have hfz7_1:=blk_frozen BK293.out 1;have hfz7_2:=blk_frozen BK293.out 2)|((with_reducible refine gate_callee (f:=77) rfl ?_);refine goesL_ (some 6) rfl rfl Try.func77 (by kernel_rfl) rfl #[.agg #[.slice A1_0 l1_0.length c1_0],.agg #[.bool a0_0,.slice A0_1 l0_1.length c0_1,.slice A0_2 l0_2.length c0_2]] rfl Ya ?_;(with_reducible refine (impl_Sign_isLit.calls k _ _ l1_0 a0_0 _ _ l0_1 _ _ l0_2 t294 _ ?side1 ?side2 ?side3 ?side4 ?side5 ?side6 A3.out).mono ?_);(case side1=>exact sC HR1_0);(case side2=>exact HC1_0.out);(case side3=>exact sC HR0_1);(case side4=>exact HC0_1.out);(case side5=>exact sC HR0_2);(case side6=>exact HC0_2.out);rintro e w8 ⟨rfl,hb⟩;refine ⟨_,rfl,?_⟩;replace BK1:=Aside0.mk (blk_below (bB BK1) hb);replace BK293:=Aside0.mk (blk_below (bB BK293) hb);replace HB:=Aside0.mk (below_step bH hb);(try clear hb);(try clear hb2);(try clear hk);(try clear hi)))
 go_ret
 exact ⟨by first|rfl|(simp [errW_none,errW_some] <;> rfl)|(simp [*,errW_none,errW_some] <;> rfl),bH⟩

/-! ### slices_IndexFunc: function 109 -/
set_option maxHeartbeats 2000000 in
set_option maxRecDepth 100000 in
theorem idx109 (g:Nat) (lb:Array Value) (eg:∀ args w,(callFunc g args).run Try.prog w = .ok (.enter g args) w) (f:S65 → Option Bool) (A:Option Addr) (c:Nat) (l:List S65) (r:Int) (w:World) (hr:Kd.C k65 w A l.length l) (hc:l.length ≤ c)
    (hp:∀ (W:World) (x:S65) (b:Bool) (E1:Option Addr) (e1:Nat) (E2:Option Addr) (e2:Nat),Below w.heap.size w W → Kd.C (Kd.int .i64) W E1 x.f1.length x.f1 → x.f1.length ≤ e1 → Kd.C (Kd.int .i64) W E2 x.f2.length x.f2 → x.f2.length ≤ e2 → f x = some b → Calls Try.prog g (#[.agg #[.bool x.f0,.slice E1 x.f1.length e1,.slice E2 x.f2.length e2]] ++ lb) W fun e w'=>e = .returned (.bool b) ∧ Below W.heap.size W w')
    (h:idxO f 0 l = some r) :
    Calls Try.prog 109 #[.slice A l.length c,.func (.func g) #[] lb] w fun e w'=>e = .returned (.int .i64 r) ∧ Below w.heap.size w w':=by
  have HR:=Aside0.mk hr
  have HP:=Aside0.mk hp
  have HL:=Aside0.mk hr.2.1
  have H:=Aside0.mk h
  clear hr hp h hc
  have hu:=Try.underlying65
  go_enter Try.func109,Try.ntmps109
  go_wp2
  go_loopg [5,8] (l.length + 1) (fun kq _ v8 w'=>∃ kk:Nat,v8 = .int .i64 kk ∧ Aside0 (kk ≤ l.length ∧ l.length + 1 ≤ kq + kk) ∧ Aside0 (idxO f kk (l.drop kk) = some r) ∧ Aside0 (Below w.heap.size w w'))
  case atStart=>exact ⟨0,rfl,⟨Nat.zero_le _,by omega⟩,⟨by simpa using H.out⟩,⟨Below.refl _ _⟩⟩
  case round =>
    obtain ⟨kk,rfl,HK,HI,HB⟩:=hrel
    have hkk:=HK.out.1
    by_cases hlt:kk < l.length
    · have hd:l.drop kk = l[kk] :: l.drop (kk + 1):=List.drop_eq_getElem_cons hlt
      have hi:=HI.out
      rw [hd] at hi
      simp only [idxO] at hi
      obtain ⟨b,hb,hi⟩:=Option.bind_eq_some_iff.1 hi
      have HW:=Aside0.mk (show wrap64 ((kk:Int) + 1) = ((kk + 1:Nat):Int) from by have:=HL.out;unfold wrap64;omega)
      have p:0 ≤ (kk:Int):=by omega
      have q:(kk:Int) < (l.length:Int):=by omega
      have q1:decide (kk < l.length) = true:=decide_eq_true hlt
      have q2:decide ((kk:Int) < (l.length:Int)) = true:=decide_eq_true q
      obtain ⟨ad,E1,e1,E2,e2,e1,hx0,hx1,hx2,he1,hE1,he2,hE2⟩:=at_T65 HR.out (kk:Int) p q
      cases e1
      have hrd:rd_T65 l (kk:Int) = l[kk]:=by unfold rd_T65;simp [List.getD_eq_getElem?_getD,List.getElem?_eq_getElem hlt]
      rw [hrd] at hx0 hx1 hx2 he1 hE1 he2 hE2
      clear hrd
      replace hx0:=(HB.out.cell (World.block_lt_of_cell? w _ hx0)).trans hx0
      replace hx1:=(HB.out.cell (World.block_lt_of_cell? w _ hx1)).trans hx1
      replace hx2:=(HB.out.cell (World.block_lt_of_cell? w _ hx2)).trans hx2
      replace hE1:=Kd.C_below hE1 HB.out
      replace hE2:=Kd.C_below hE2 HB.out
      rw [Int.toNat_natCast] at hx0 hx1 hx2
      generalize hy:l[kk] = y at hx0 hx1 hx2 he1 hE1 he2 hE2 hb
      clear hy hd
      have HC:=Aside0.mk (HP.out wr y b E1 e1 E2 e2 HB.out hE1 he1 hE2 he2 hb)
      clear HI hkk
      clear he1 hE1 he2 hE2
      cases b with
      | true =>
        have HE:=Aside0.mk (Option.some.inj hi)
        clear hi hb
        go_wp2_with fail
        refine HC.out.mono ?_
        rintro e w' ⟨rfl,hb'⟩
        have HB2:=Aside0.mk (below_step HB.out hb')
        clear HB hb' HC hx0 hx1 hx2
        have HB:=HB2
        clear HB2
        go_wp2_with fail
        go_ret
        exact ⟨by rw [← HE.out];rfl,HB.out⟩
      | false =>
        have HE:=Aside0.mk hi
        clear hi hb
        go_wp2_with fail
        refine HC.out.mono ?_
        rintro e w' ⟨rfl,hb'⟩
        have HB2:=Aside0.mk (below_step HB.out hb')
        clear HB hb' HC hx0 hx1 hx2
        have HB:=HB2
        clear HB2
        go_wp2_with fail
        go_roundg (l.length - kk)
        case measure=>have:=HK.out;omega
        case rel=>exact ⟨kk + 1,by rw [HW.out],⟨by have:=HK.out;omega⟩,⟨by rw [show ((kk + 1:Nat):Int) = (kk:Int) + 1 from by omega];simpa using HE.out⟩,HB⟩
    · have HE:=Aside0.mk (show -1 = r from by have:=HI.out;rw [List.drop_eq_nil_of_le (by omega)] at this;simp [idxO] at this;exact this)
      have q1:decide (kk < l.length) = false:=decide_eq_false hlt
      have q2:decide ((kk:Int) < (l.length:Int)) = false:=decide_eq_false (by omega)
      clear HI hkk
      go_wp2
      go_ret
      exact ⟨by rw [← HE.out];rfl,HB.out⟩

/-! ### slices_ContainsFunc: function 75 -/
set_option maxHeartbeats 2000000 in
theorem any75 (g:Nat) (lb:Array Value) (eg:∀ args w,(callFunc g args).run Try.prog w = .ok (.enter g args) w) (f:S65 → Option Bool) (A:Option Addr) (c:Nat) (l:List S65) (r:Bool) (w:World) (hr:Kd.C k65 w A l.length l) (hc:l.length ≤ c)
    (hp:∀ (W:World) (x:S65) (b:Bool) (E1:Option Addr) (e1:Nat) (E2:Option Addr) (e2:Nat),Below w.heap.size w W → Kd.C (Kd.int .i64) W E1 x.f1.length x.f1 → x.f1.length ≤ e1 → Kd.C (Kd.int .i64) W E2 x.f2.length x.f2 → x.f2.length ≤ e2 → f x = some b → Calls Try.prog g (#[.agg #[.bool x.f0,.slice E1 x.f1.length e1,.slice E2 x.f2.length e2]] ++ lb) W fun e w'=>e = .returned (.bool b) ∧ Below W.heap.size W w')
    (h:anyO f l = some r) :
    Calls Try.prog 75 #[.slice A l.length c,.func (.func g) #[] lb] w fun e w'=>e = .returned (.bool r) ∧ Below w.heap.size w w':=by
  obtain ⟨j,hj,hr2⟩:=idxO_any f l 0 r (Int.le_refl _) h
  have HR:=Aside0.mk hr2
  have HC:=Aside0.mk (fun W hW=>idx109 g lb eg f A c l j W (Kd.C_below hr hW) hc (fun W' x b E1 e1 E2 e2 h1=>hp W' x b E1 e1 E2 e2 (hW.trans (h1.mono hW.size))) hj)
  clear hr hp h hc hj hr2 eg
  go_enter Try.func75,Try.ntmps75
  go_wp2_with fail
  refine (HC.out _ (Below.refl _ _)).mono ?_
  rintro e w' ⟨rfl,hb⟩
  have HB:=Aside0.mk hb
  clear hb HC
  go_wp2
  go_ret
  exact ⟨by rw [HR.out];rfl,HB.out⟩

/-! ### impl_Sign_isClause_1_any: function 1000001 -/
def impl_Sign_isClause_1_any.f (k:Nat) (l0:List (S65)) (l1_0:List Int):Option (Bool):=anyO (fun x=>impl_Sign_isClause_1.f k x.f0 x.f1 x.f2 l1_0) l0
theorem impl_Sign_isClause_1_any.mono:∀ a0 a1 k,LeO (impl_Sign_isClause_1_any.f k a0 a1) (impl_Sign_isClause_1_any.f (k + 1) a0 a1):=by
  intro a0 a1 k
  unfold impl_Sign_isClause_1_any.f
  exact anyO_mono (fun x=>impl_Sign_isClause_1.mono _ _ _ _ k) _
theorem impl_Sign_isClause_1_any.calls (k:Nat) (A0:Option Addr) (c0:Nat) (l0:List (S65)) (A1_0:Option Addr) (c1_0:Nat) (l1_0:List Int) (g1_:Nat) (r:Bool) (w:World) (hr0:Kd.C k65 w A0 l0.length l0) (hc0:l0.length ≤ c0) (hr1_0:Kd.C (Kd.int .i64) w A1_0 l1_0.length l1_0) (hc1_0:l1_0.length ≤ c1_0) (hg1:w.heap[g1_]? = some (.cells #[.slice A1_0 l1_0.length c1_0] 30 (0,0))) (h:impl_Sign_isClause_1_any.f k l0 l1_0 = some r) :
    Calls Try.prog 75 #[.slice A0 l0.length c0,.func (.func 101) #[] #[.pointer (some ⟨g1_,0,none⟩)]] w fun e w'=>e = .returned (.bool r) ∧ Below w.heap.size w w':=by
  exact any75 101 #[.pointer (some ⟨g1_,0,none⟩)] (enters_of Try.func101 (by kernel_rfl) rfl) (fun x=>impl_Sign_isClause_1.f k x.f0 x.f1 x.f2 l1_0) A0 c0 l0 r w hr0 hc0 (fun W x b E1 e1 E2 e2 hW hE1 he1 hE2 he2 hx=>(impl_Sign_isClause_1.calls k x.f0 E1 e1 x.f1 E2 e2 x.f2 g1_ A1_0 c1_0 l1_0 b W hE1 he1 hE2 he2 (Kd.C_below hr1_0 hW) hc1_0 ((hW.block _ (Array.getElem?_eq_some_iff.1 hg1).1).trans hg1) hx).mono fun _ _ h_=>⟨h_.1,h_.2⟩) h

/-! ### impl_Sign_isClause: function 67 -/
def impl_Sign_isClause.f (k:Nat) (l0_0:List Int) (l1:List (S65)):Option (Bool):=if (l1.length:Int) ≤ 8 then ((impl_Sign_isClause_1_any.f k l1 l0_0).bind fun t296=>(some (!t296))) else (some false)
theorem impl_Sign_isClause.mono:∀ a0 a1 k,LeO (impl_Sign_isClause.f k a0 a1) (impl_Sign_isClause.f (k + 1) a0 a1):=by
 intro a0 a1 k
 unfold impl_Sign_isClause.f
 have m0:=@impl_Sign_isClause_1_any.mono
 exact mO
set_option maxHeartbeats 8000000 in
set_option maxRecDepth 100000 in
theorem impl_Sign_isClause.calls (k:Nat) (A0_0:Option Addr) (c0_0:Nat) (l0_0:List Int) (A1:Option Addr) (c1:Nat) (l1:List (S65)) (r:Bool) (w:World) (hr0_0:Kd.C (Kd.int .i64) w A0_0 l0_0.length l0_0) (hc0_0:l0_0.length ≤ c0_0) (hr1:Kd.C k65 w A1 l1.length l1) (hc1:l1.length ≤ c1) (h:impl_Sign_isClause.f k l0_0 l1 = some r) :
  Calls Try.prog 67 #[.agg #[.slice A0_0 l0_0.length c0_0],.slice A1 l1.length c1] w fun e w'=>e = .returned (.bool r) ∧ Below w.heap.size w w':=by
 have hu30:=Try.underlying30
 have HR0_0:=Aside0.mk hr0_0
 have HC0_0:=Aside0.mk hc0_0
 clear hr0_0 hc0_0
 have HR1:=Aside0.mk hr1
 have HC1:=Aside0.mk hc1
 clear hr1 hc1
 have HB:=Aside0.mk (Below.refl w.heap.size w)
 have H:(if (l1.length:Int) ≤ 8 then ((impl_Sign_isClause_1_any.f k l1 l0_0).bind fun t296=>(some (!t296))) else (some false)) = some r:=h
 clear h
 by_cases c3:(l1.length:Int) ≤ 8
 ·rw [if_pos c3] at H
  have c3b0:=decide_eq_true c3
  have c3b1:decide (l1.length ≤ 8) = true:=decide_eq_true (by omega)
  clear c3
  replace H:=Option.bind_eq_some_iff.mp H
  obtain ⟨t296,A40,H⟩:=H
  replace H:(some (!t296)) = some r:=H
  have A4:=Aside0.mk A40
  clear A40
  obtain rfl:=Option.some.inj H
  go_enter Try.func67,Try.ntmps67
  go_wp2_with (first|((with_reducible refine gate_dst (N:=2) rfl ?_);refine box_event ?hg (N:=2) ?hd (cs:=#[.slice A0_0 l0_0.length c0_0]) (t:=30) ?hr ?_;(case hd=>rfl);(case hg=>rfl);(case hr=>first|(go_simp;done)|(go_simp;rfl));intro gb295 hg w5 hbox hb;have BK295:=Aside0.mk (hbox);have GW295:=Aside0.mk ((hZ:w.heap.size ≤ gb295));have GE295:=Aside0.mk ((hZ:w.heap.size ≤ gb295));replace HB:=Aside0.mk (below_step bH hb);clear hb hbox hg)|(go_at_call 75;(with_reducible refine (impl_Sign_isClause_1_any.calls k _ _ l1 A0_0 c0_0 l0_0 gb295 t296 _ ?side1 ?side2 ?side3 ?side4 ?side5 A4.out).mono ?_);(case side1=>exact sC HR1);(case side2=>exact HC1.out);(case side3=>exact sC HR0_0);(case side4=>exact HC0_0.out);(case side5=>(with_reducible repeat (first|refine blk_drewN ?_ _|refine blk_drew ?_|refine blk_alloc ?_ _));exact BK295.out);rintro e w6 ⟨rfl,hb⟩;replace BK295:=Aside0.mk (blk_below (bB BK295) hb);replace HB:=Aside0.mk (below_step bH hb);(try clear hb);(try clear hb2);(try clear hk);(try clear hi)))
  go_ret
  exact ⟨by first|rfl|(simp [errW_none,errW_some] <;> rfl)|(simp [*,errW_none,errW_some] <;> rfl),bH⟩
 ·rw [if_neg c3] at H
  have c3b0:decide ((l1.length:Int) ≤ 8) = false:=decide_eq_false c3
  have c3b1:decide (l1.length ≤ 8) = false:=decide_eq_false (by omega)
  clear c3
  obtain rfl:=Option.some.inj H
  go_enter Try.func67,Try.ntmps67
  go_wp2_with (first|((with_reducible refine gate_dst (N:=2) rfl ?_);refine box_event ?hg (N:=2) ?hd (cs:=#[.slice A0_0 l0_0.length c0_0]) (t:=30) ?hr ?_;(case hd=>rfl);(case hg=>rfl);(case hr=>first|(go_simp;done)|(go_simp;rfl));intro gb295 hg w7 hbox hb;have BK295:=Aside0.mk (hbox);have GW295:=Aside0.mk ((hZ:w.heap.size ≤ gb295));have GE295:=Aside0.mk ((hZ:w.heap.size ≤ gb295));replace HB:=Aside0.mk (below_step bH hb);clear hb hbox hg))
  go_ret
  exact ⟨by first|rfl|(simp [errW_none,errW_some] <;> rfl)|(simp [*,errW_none,errW_some] <;> rfl),bH⟩

/-! ### impl_ReadClause: function 37 -/
def impl_ReadClause.j0:Nat → ByteArray → Bool → List Int → Option ((List (S65)) × Int × Bool)
 | 0,_,_,_=>none
 | k + 1,x1,x16,x298000=>if x16 = true then (some (([]:List (S65)),0,false)) else ((impl_parser_clause.f k x298000 x1 0 12 false).bind fun bt300=>((impl_parser_done.f x298000 bt300.2.1 bt300.2.2.1 bt300.2.2.2.1 bt300.2.2.2.2).bind fun bt307=>(if bt307.1 = true then ((impl_Sign_isClause.f k x298000 bt300.1).bind fun t312=>(if t312 = true then (some (bt300.1,(x1.size:Int),true)) else (some (([]:List (S65)),0,false)))) else (some (([]:List (S65)),bt307.2.2.1,false)))))
def impl_ReadClause.f (k:Nat) (l0_0:List Int) (a1:ByteArray):Option ((List (S65)) × Int × Bool):=(impl_GoodSign.f l0_0).bind fun t298=>(if t298 = true then (impl_ReadClause.j0 k a1 (decide ((a1.size:Int) > 1000)) l0_0) else (impl_ReadClause.j0 k a1 true l0_0))
theorem impl_ReadClause.mono_l:∀ k,(∀ y0 y1 y2,LeO (impl_ReadClause.j0 k y0 y1 y2) (impl_ReadClause.j0 (k + 1) y0 y1 y2))
 | 0=>fun _ _ _ r h=>by simp [impl_ReadClause.j0] at h
 | k + 1=>by
  have ih0:=impl_ReadClause.mono_l k
  ·intro y0 y1 y2
   unfold impl_ReadClause.j0
   have m0:=@impl_Sign_isClause.mono
   have m1:=@impl_parser_clause.mono
   exact mO
theorem impl_ReadClause.mono:∀ a0 a1 k,LeO (impl_ReadClause.f k a0 a1) (impl_ReadClause.f (k + 1) a0 a1):=by
 intro a0 a1 k
 have ih0:=impl_ReadClause.mono_l k
 unfold impl_ReadClause.f
 have m0:=@impl_Sign_isClause.mono
 have m1:=@impl_parser_clause.mono
 exact mO
set_option maxHeartbeats 8000000 in
set_option maxRecDepth 100000 in
theorem impl_ReadClause.calls (k:Nat) (A0_0:Option Addr) (c0_0:Nat) (l0_0:List Int) (a1:ByteArray) (r1:List (S65)) (r2:Int) (r3:Bool) (w:World) (hr0_0:Kd.C (Kd.int .i64) w A0_0 l0_0.length l0_0) (hc0_0:l0_0.length ≤ c0_0) (h:impl_ReadClause.f k l0_0 a1 = some (r1,r2,r3)) :
  Calls Try.prog 37 #[.agg #[.slice A0_0 l0_0.length c0_0],.string a1] w fun e w'=>∃ v0_:Value,e = .returned (.tuple #[v0_,.int .i64 r2,.bool r3]) ∧ Kd.S aLit 65 w' w.heap.size (fun _=>True) v0_ r1 ∧ Below w.heap.size w w':=by
 have hu30:=Try.underlying30
 have hu89:=Try.underlying89
 have HR0_0:=Aside0.mk hr0_0
 have HC0_0:=Aside0.mk hc0_0
 clear hr0_0 hc0_0
 have HB:=Aside0.mk (Below.refl w.heap.size w)
 have H:((impl_GoodSign.f l0_0).bind fun t298=>(if t298 = true then (impl_ReadClause.j0 k a1 (decide ((a1.size:Int) > 1000)) l0_0) else (impl_ReadClause.j0 k a1 true l0_0))) = some (r1,r2,r3):=h
 clear h
 have HC3:=Aside0.mk H
 clear H
 go_enter Try.func37,Try.ntmps37
 go_upto_region 1 with (first|((with_reducible refine gate_dst (N:=2) rfl ?_);(try (refine gate_guard (by rfl) ?_;dsimp only));refine box_event ?hg (N:=2) ?hd (cs:=#[.slice A0_0 l0_0.length c0_0]) (t:=30) ?hr ?_;(case hd=>rfl);(case hg=>rfl);(case hr=>first|(go_simp;done)|(go_simp;rfl));intro gb297 hg w4 hbox hb;have BK297:=Aside0.mk (hbox);have GW297:=Aside0.mk ((hZ:w.heap.size ≤ gb297));have GE297:=Aside0.mk ((hZ:w.heap.size ≤ gb297));replace HB:=Aside0.mk (below_step bH hb);clear hb hbox hg))
 repeat (go_quiet (first|((with_reducible refine gate_dst (N:=2) rfl ?_);(try (refine gate_guard (by rfl) ?_;dsimp only));refine box_event ?hg (N:=2) ?hd (cs:=#[.slice A0_0 l0_0.length c0_0]) (t:=30) ?hr ?_;(case hd=>rfl);(case hg=>rfl);(case hr=>first|(go_simp;done)|(go_simp;rfl));intro gb297 hg w4 hbox hb;have BK297:=Aside0.mk (hbox);have GW297:=Aside0.mk ((hZ:w.heap.size ≤ gb297));have GE297:=Aside0.mk ((hZ:w.heap.size ≤ gb297));replace HB:=Aside0.mk (below_step bH hb);clear hb hbox hg));go_upto_region 1 with (first|((with_reducible refine gate_dst (N:=2) rfl ?_);(try (refine gate_guard (by rfl) ?_;dsimp only));refine box_event ?hg (N:=2) ?hd (cs:=#[.slice A0_0 l0_0.length c0_0]) (t:=30) ?hr ?_;(case hd=>rfl);(case hg=>rfl);(case hr=>first|(go_simp;done)|(go_simp;rfl));intro gb297 hg w4 hbox hb;have BK297:=Aside0.mk (hbox);have GW297:=Aside0.mk ((hZ:w.heap.size ≤ gb297));have GE297:=Aside0.mk ((hZ:w.heap.size ≤ gb297));replace HB:=Aside0.mk (below_step bH hb);clear hb hbox hg)))
 (try simp only [Act.put,List.setIfInBounds_toArray,List.set_cons_zero,List.set_cons_succ])
 go_cut [16] (fun v16 wc=>∃ (kq:Nat) (x16_2:Bool),v16 = .bool x16_2 ∧ Aside0 (impl_ReadClause.j0 kq a1 x16_2 l0_0 = some (r1,r2,r3)) ∧ Aside0 (kq ≤ k) ∧ Aside0 (wc.heap[gb297]? = some (.cells #[(.slice A0_0 l0_0.length c0_0)] 30 (0,0))) ∧ Aside0 (Below w.heap.size w wc))
 case first =>
  have H:=HC3.out
  clear HC3
  replace H:=Option.bind_eq_some_iff.mp H
  obtain ⟨t298,A50,H⟩:=H
  replace H:(if t298 = true then (impl_ReadClause.j0 k a1 (decide ((a1.size:Int) > 1000)) l0_0) else (impl_ReadClause.j0 k a1 true l0_0)) = some (r1,r2,r3):=H
  have A5:=Aside0.mk A50
  clear A50
  by_cases c6:t298 = true
  ·subst c6
   have H1:(impl_ReadClause.j0 k a1 (decide ((a1.size:Int) > 1000)) l0_0) = some (r1,r2,r3):=by rw [if_pos rfl] at H;exact H
   clear H
   have H:=H1
   clear H1
   have H':=Aside0.mk H
   clear H
   have hcz7_0:w4.cell? ⟨gb297,0,none⟩ = some (.slice A0_0 l0_0.length c0_0):=(blk_cell BK297.out 0).trans rfl
   have hfz7_0:=blk_frozen BK297.out 0
   go_wp2_with (first|(go_at_call 64;(with_reducible refine (impl_GoodSign.calls _ _ l0_0 true _ ?side1 ?side2 A5.out).mono ?_);(case side1=>exact sC HR0_0);(case side2=>exact HC0_0.out);rintro e w8 ⟨rfl,hb⟩;replace BK297:=Aside0.mk (blk_below (bB BK297) hb);replace HB:=Aside0.mk (below_step bH hb);(try clear hb);(try clear hb2);(try clear hk);(try clear hi)))
   repeat (go_quiet (first|(go_at_call 64;(with_reducible refine (impl_GoodSign.calls _ _ l0_0 true _ ?side1 ?side2 A5.out).mono ?_);(case side1=>exact sC HR0_0);(case side2=>exact HC0_0.out);rintro e w8 ⟨rfl,hb⟩;replace BK297:=Aside0.mk (blk_below (bB BK297) hb);replace HB:=Aside0.mk (below_step bH hb);(try clear hb);(try clear hb2);(try clear hk);(try clear hi)));try go_wp2_with (first|(go_at_call 64;(with_reducible refine (impl_GoodSign.calls _ _ l0_0 true _ ?side1 ?side2 A5.out).mono ?_);(case side1=>exact sC HR0_0);(case side2=>exact HC0_0.out);rintro e w8 ⟨rfl,hb⟩;replace BK297:=Aside0.mk (blk_below (bB BK297) hb);replace HB:=Aside0.mk (below_step bH hb);(try clear hb);(try clear hb2);(try clear hk);(try clear hi))))
   go_meet
   case rel=>exact ⟨_,(decide ((a1.size:Int) > 1000)),Yd,H',⟨by first|omega|exact Nat.le_refl _⟩,⟨by (with_reducible repeat (first|refine blk_drewN ?_ _|refine blk_drew ?_|refine blk_alloc ?_ _));exact BK297.out⟩,⟨bH⟩⟩
  ·replace c6:=Bool.eq_false_iff.mpr c6
   subst c6
   have H1:(impl_ReadClause.j0 k a1 true l0_0) = some (r1,r2,r3):=by rw [if_neg (show ¬ (false = true) by decide)] at H;exact H
   clear H
   have H:=H1
   clear H1
   have H':=Aside0.mk H
   clear H
   have hcz9_0:w4.cell? ⟨gb297,0,none⟩ = some (.slice A0_0 l0_0.length c0_0):=(blk_cell BK297.out 0).trans rfl
   have hfz9_0:=blk_frozen BK297.out 0
   go_wp2_with (first|(go_at_call 64;(with_reducible refine (impl_GoodSign.calls _ _ l0_0 false _ ?side1 ?side2 A5.out).mono ?_);(case side1=>exact sC HR0_0);(case side2=>exact HC0_0.out);rintro e w10 ⟨rfl,hb⟩;replace BK297:=Aside0.mk (blk_below (bB BK297) hb);replace HB:=Aside0.mk (below_step bH hb);(try clear hb);(try clear hb2);(try clear hk);(try clear hi)))
   repeat (go_quiet (first|(go_at_call 64;(with_reducible refine (impl_GoodSign.calls _ _ l0_0 false _ ?side1 ?side2 A5.out).mono ?_);(case side1=>exact sC HR0_0);(case side2=>exact HC0_0.out);rintro e w10 ⟨rfl,hb⟩;replace BK297:=Aside0.mk (blk_below (bB BK297) hb);replace HB:=Aside0.mk (below_step bH hb);(try clear hb);(try clear hb2);(try clear hk);(try clear hi)));try go_wp2_with (first|(go_at_call 64;(with_reducible refine (impl_GoodSign.calls _ _ l0_0 false _ ?side1 ?side2 A5.out).mono ?_);(case side1=>exact sC HR0_0);(case side2=>exact HC0_0.out);rintro e w10 ⟨rfl,hb⟩;replace BK297:=Aside0.mk (blk_below (bB BK297) hb);replace HB:=Aside0.mk (below_step bH hb);(try clear hb);(try clear hb2);(try clear hk);(try clear hi))))
   go_meet
   case rel=>exact ⟨_,(true),Yd,H',⟨by first|omega|exact Nat.le_refl _⟩,⟨by (with_reducible repeat (first|refine blk_drewN ?_ _|refine blk_drew ?_|refine blk_alloc ?_ _));exact BK297.out⟩,⟨bH⟩⟩
 case rest =>
  clear HC3
  try clear p2
  try clear c3
  try clear c6
  try clear hcz7_0
  try clear hcz9_0
  try clear hfz7_0
  try clear hfz9_0
  obtain ⟨kq,x16_2,rfl,HA,HJ2,BK297,HB⟩:=hcut
  cases kq with
  | zero=>exact absurd HA.out (by simp [impl_ReadClause.j0])
  | succ kj2 =>
   have H:=HA.out
   clear HA
   simp only [impl_ReadClause.j0] at H
   by_cases c11:x16_2 = true
   ·subst c11
    have H1:(some (([]:List (S65)),0,false)) = some (r1,r2,r3):=by rw [if_pos rfl] at H;exact H
    clear H
    have H:=H1
    clear H1
    simp only [Option.some.injEq,Prod.mk.injEq] at H
    obtain ⟨rfl,rfl,rfl⟩:=H
    go_wp2
    repeat (go_quiet (fail);try go_wp2)
    go_ret3
    exact ⟨_,by first|rfl|(simp [errW_none,errW_some] <;> rfl)|(simp [*,errW_none,errW_some] <;> rfl),by first|exact Kd.S_nil _ _ _ _ _|exact Kd.N_nil _ _ _ _ _|exact Kd.V_nil _ _ _ _ _|exact Kd.Q_nil _ _ _ _ _|exact Kd.R_nil _ _ _ _ _,bH⟩
   ·replace c11:=Bool.eq_false_iff.mpr c11
    subst c11
    have H1:((impl_parser_clause.f kj2 l0_0 a1 0 12 false).bind fun bt300=>((impl_parser_done.f l0_0 bt300.2.1 bt300.2.2.1 bt300.2.2.2.1 bt300.2.2.2.2).bind fun bt307=>(if bt307.1 = true then ((impl_Sign_isClause.f kj2 l0_0 bt300.1).bind fun t312=>(if t312 = true then (some (bt300.1,(a1.size:Int),true)) else (some (([]:List (S65)),0,false)))) else (some (([]:List (S65)),bt307.2.2.1,false))))) = some (r1,r2,r3):=by rw [if_neg (show ¬ (false = true) by decide)] at H;exact H
    clear H
    have H:=H1
    clear H1
    replace H:=Option.bind_eq_some_iff.mp H
    obtain ⟨⟨t300,t303,t304,t305,t306⟩,A120,H⟩:=H
    replace H:((impl_parser_done.f l0_0 t303 t304 t305 t306).bind fun bt307=>(if bt307.1 = true then ((impl_Sign_isClause.f kj2 l0_0 t300).bind fun t312=>(if t312 = true then (some (t300,(a1.size:Int),true)) else (some (([]:List (S65)),0,false)))) else (some (([]:List (S65)),bt307.2.2.1,false)))) = some (r1,r2,r3):=H
    have A12:=Aside0.mk A120
    clear A120
    replace H:=Option.bind_eq_some_iff.mp H
    obtain ⟨⟨t307,t308,t309,t310,t311⟩,A130,H⟩:=H
    replace H:(if t307 = true then ((impl_Sign_isClause.f kj2 l0_0 t300).bind fun t312=>(if t312 = true then (some (t300,(a1.size:Int),true)) else (some (([]:List (S65)),0,false)))) else (some (([]:List (S65)),t309,false))) = some (r1,r2,r3):=H
    have A13:=Aside0.mk A130
    clear A130
    by_cases c14:t307 = true
    ·subst c14
     have H1:((impl_Sign_isClause.f kj2 l0_0 t300).bind fun t312=>(if t312 = true then (some (t300,(a1.size:Int),true)) else (some (([]:List (S65)),0,false)))) = some (r1,r2,r3):=by rw [if_pos rfl] at H;exact H
     clear H
     have H:=H1
     clear H1
     replace H:=Option.bind_eq_some_iff.mp H
     obtain ⟨t312,A150,H⟩:=H
     replace H:(if t312 = true then (some (t300,(a1.size:Int),true)) else (some (([]:List (S65)),0,false))) = some (r1,r2,r3):=H
     have A15:=Aside0.mk A150
     clear A150
     by_cases c16:t312 = true
     ·subst c16
      have H1:(some (t300,(a1.size:Int),true)) = some (r1,r2,r3):=by rw [if_pos rfl] at H;exact H
      clear H
      have H:=H1
      clear H1
      simp only [Option.some.injEq,Prod.mk.injEq] at H
      obtain ⟨rfl,rfl,rfl⟩:=H
      have hcz17_0:wc.cell? ⟨gb297,0,none⟩ = some (.slice A0_0 l0_0.length c0_0):=(blk_cell BK297.out 0).trans rfl
      have hfz17_0:=blk_frozen BK297.out 0
      go_wp2_with (first|((with_reducible refine gate_dst (N:=20) rfl ?_);(try (refine gate_guard (by rfl) ?_;dsimp only));refine box_event ?hg (N:=20) ?hd (cs:=#[.slice A0_0 l0_0.length c0_0,.string a1,.int .i64 0,.int .i64 12,.bool false]) (t:=89) ?hr ?_;(case hd=>rfl);(case hg=>rfl);(case hr=>first|(go_simp;done)|(go_simp;rfl));intro gb299 hg w18 hbox hb;have BK299:=Aside0.mk (hbox);have GW299:=Aside0.mk ((hZ:w.heap.size ≤ gb299));have GE299:=Aside0.mk ((hZ:w.heap.size ≤ gb299));replace HB:=Aside0.mk (below_step bH hb);have NB297_299:=Aside0.mk ((nL BK297:gb297 ≠ gb299));have NB299_297:=Aside0.mk ((nG BK297:gb299 ≠ gb297));replace BK297:=Aside0.mk (blk_below (bB BK297) hb);clear hb hbox hg;have HI299:=Aside0.mk (show IsS89 w w18 gb299 l0_0 a1 0 12 false from ⟨_,_,BK299.out,GW299.out,HR0_0.out⟩);clear BK299)|(go_at_call 65;(with_reducible refine (impl_parser_clause.calls kj2 gb299 l0_0 a1 0 12 false t300 t303 t304 t305 t306 w _ ?side1 ?side2 A12.out).mono ?_);(case side1=>repeat (first|(with_reducible first|exact HI299.out|apply IsS89.alloc|apply IsS89.drewN|apply IsS89.drew|apply IsS89.set_1|apply IsS89.set_2|apply IsS89.set_3|apply IsS89.set_4|refine IsS89.far ?_ NB299_297.out _)|exact HI299.out));(case side2=>repeat (first|(with_reducible first|exact HB.out|apply below_alloc|apply pw_below_drewN|apply below_drew1|refine below_set ?_ (IsS89.ge HI299.out)|refine below_set ?_ GE297.out)|exact HB.out));rintro e w19 ⟨v301,rfl,ho0,hi,hb,hk⟩;replace BK297:=Aside0.mk (KeepBut.blk hk (g':=gb297) (o:=.cells #[.slice A0_0 l0_0.length c0_0] 30 (0,0)) (bB BK297) NB297_299.out (by simp));have HO302:=Aside0.mk (Kd.S_lower ho0 (below_size Yc));replace HB:=Aside0.mk (hb);replace HI299:=Aside0.mk (hi);(try clear hb);(try clear hb2);(try clear hk);(try clear hi);(try clear ho0))|(go_at_call 66;(with_reducible refine (impl_parser_done.calls gb299 l0_0 t303 t304 t305 t306 true t308 t309 t310 t311 w _ ?side1 ?side2 A13.out).mono ?_);(case side1=>repeat (first|(with_reducible first|exact HI299.out|apply IsS89.alloc|apply IsS89.drewN|apply IsS89.drew|apply IsS89.set_1|apply IsS89.set_2|apply IsS89.set_3|apply IsS89.set_4|refine IsS89.far ?_ NB299_297.out _)|exact HI299.out));(case side2=>repeat (first|(with_reducible first|exact HB.out|apply below_alloc|apply pw_below_drewN|apply below_drew1|refine below_set ?_ (IsS89.ge HI299.out)|refine below_set ?_ GE297.out)|exact HB.out));rintro e w20 ⟨rfl,hi,hb,hk⟩;replace BK297:=Aside0.mk (KeepBut.blk hk (g':=gb297) (o:=.cells #[.slice A0_0 l0_0.length c0_0] 30 (0,0)) (bB BK297) NB297_299.out (by simp));replace HO302:=Aside0.mk (Kd.S_mono (Kd.S_keep (IsS89.apartS (show IsS89 w _ gb299 l0_0 t303 t304 t305 t306 from by repeat (first|(with_reducible first|exact HI299.out|apply IsS89.alloc|apply IsS89.drewN|apply IsS89.drew|apply IsS89.set_1|apply IsS89.set_2|apply IsS89.set_3|apply IsS89.set_4|refine IsS89.far ?_ NB299_297.out _)|exact HI299.out)) (rS HO302) (by decide)) hk (fun _ h=>h.2)) (fun _ h=>h.1));replace HB:=Aside0.mk (hb);replace HI299:=Aside0.mk (hi);(try clear hb);(try clear hb2);(try clear hk);(try clear hi);have hnb21:=NB297_299.out;have hnc21:=NB299_297.out;have hcz22_0:w20.cell? ⟨gb297,0,none⟩ = some (.slice A0_0 l0_0.length c0_0):=(blk_cell BK297.out 0).trans rfl;have hfz22_0:=blk_frozen BK297.out 0;obtain ⟨Ao23,co23,eo23⟩:=Kd.S_slice HO302.out;subst eo23)|(go_at_call 67;(with_reducible refine (impl_Sign_isClause.calls kj2 _ _ l0_0 _ _ t300 true _ ?side1 ?side2 ?side3 ?side4 A15.out).mono ?_);(case side1=>exact sC HR0_0);(case side2=>exact HC0_0.out);(case side3=>repeat (first|exact (Kd.S_reads' HO302.out).2.2|(with_reducible refine Kd.C_alloc ?_ _)|(with_reducible refine Kd.C_drewN ?_ _)|(with_reducible refine Kd.C_drew ?_)));(case side4=>exact (Kd.S_reads' HO302.out).2.1);rintro e w24 ⟨rfl,hb⟩;replace HO302:=Aside0.mk (Kd.S_below (rS HO302) hb);replace BK297:=Aside0.mk (blk_below (bB BK297) hb);replace HB:=Aside0.mk (below_step Yc hb);replace HI299:=Aside0.mk (IsS89.below Ye hb);(try clear hb);(try clear hb2);(try clear hk);(try clear hi)))
      repeat (go_quiet (first|((with_reducible refine gate_dst (N:=20) rfl ?_);(try (refine gate_guard (by rfl) ?_;dsimp only));refine box_event ?hg (N:=20) ?hd (cs:=#[.slice A0_0 l0_0.length c0_0,.string a1,.int .i64 0,.int .i64 12,.bool false]) (t:=89) ?hr ?_;(case hd=>rfl);(case hg=>rfl);(case hr=>first|(go_simp;done)|(go_simp;rfl));intro gb299 hg w18 hbox hb;have BK299:=Aside0.mk (hbox);have GW299:=Aside0.mk ((hZ:w.heap.size ≤ gb299));have GE299:=Aside0.mk ((hZ:w.heap.size ≤ gb299));replace HB:=Aside0.mk (below_step bH hb);have NB297_299:=Aside0.mk ((nL BK297:gb297 ≠ gb299));have NB299_297:=Aside0.mk ((nG BK297:gb299 ≠ gb297));replace BK297:=Aside0.mk (blk_below (bB BK297) hb);clear hb hbox hg;have HI299:=Aside0.mk (show IsS89 w w18 gb299 l0_0 a1 0 12 false from ⟨_,_,BK299.out,GW299.out,HR0_0.out⟩);clear BK299)|(go_at_call 65;(with_reducible refine (impl_parser_clause.calls kj2 gb299 l0_0 a1 0 12 false t300 t303 t304 t305 t306 w _ ?side1 ?side2 A12.out).mono ?_);(case side1=>repeat (first|(with_reducible first|exact HI299.out|apply IsS89.alloc|apply IsS89.drewN|apply IsS89.drew|apply IsS89.set_1|apply IsS89.set_2|apply IsS89.set_3|apply IsS89.set_4|refine IsS89.far ?_ NB299_297.out _)|exact HI299.out));(case side2=>repeat (first|(with_reducible first|exact HB.out|apply below_alloc|apply pw_below_drewN|apply below_drew1|refine below_set ?_ (IsS89.ge HI299.out)|refine below_set ?_ GE297.out)|exact HB.out));rintro e w19 ⟨v301,rfl,ho0,hi,hb,hk⟩;replace BK297:=Aside0.mk (KeepBut.blk hk (g':=gb297) (o:=.cells #[.slice A0_0 l0_0.length c0_0] 30 (0,0)) (bB BK297) NB297_299.out (by simp));have HO302:=Aside0.mk (Kd.S_lower ho0 (below_size Yc));replace HB:=Aside0.mk (hb);replace HI299:=Aside0.mk (hi);(try clear hb);(try clear hb2);(try clear hk);(try clear hi);(try clear ho0))|(go_at_call 66;(with_reducible refine (impl_parser_done.calls gb299 l0_0 t303 t304 t305 t306 true t308 t309 t310 t311 w _ ?side1 ?side2 A13.out).mono ?_);(case side1=>repeat (first|(with_reducible first|exact HI299.out|apply IsS89.alloc|apply IsS89.drewN|apply IsS89.drew|apply IsS89.set_1|apply IsS89.set_2|apply IsS89.set_3|apply IsS89.set_4|refine IsS89.far ?_ NB299_297.out _)|exact HI299.out));(case side2=>repeat (first|(with_reducible first|exact HB.out|apply below_alloc|apply pw_below_drewN|apply below_drew1|refine below_set ?_ (IsS89.ge HI299.out)|refine below_set ?_ GE297.out)|exact HB.out));rintro e w20 ⟨rfl,hi,hb,hk⟩;replace BK297:=Aside0.mk (KeepBut.blk hk (g':=gb297) (o:=.cells #[.slice A0_0 l0_0.length c0_0] 30 (0,0)) (bB BK297) NB297_299.out (by simp));replace HO302:=Aside0.mk (Kd.S_mono (Kd.S_keep (IsS89.apartS (show IsS89 w _ gb299 l0_0 t303 t304 t305 t306 from by repeat (first|(with_reducible first|exact HI299.out|apply IsS89.alloc|apply IsS89.drewN|apply IsS89.drew|apply IsS89.set_1|apply IsS89.set_2|apply IsS89.set_3|apply IsS89.set_4|refine IsS89.far ?_ NB299_297.out _)|exact HI299.out)) (rS HO302) (by decide)) hk (fun _ h=>h.2)) (fun _ h=>h.1));replace HB:=Aside0.mk (hb);replace HI299:=Aside0.mk (hi);(try clear hb);(try clear hb2);(try clear hk);(try clear hi);have hnb21:=NB297_299.out;have hnc21:=NB299_297.out;have hcz22_0:w20.cell? ⟨gb297,0,none⟩ = some (.slice A0_0 l0_0.length c0_0):=(blk_cell BK297.out 0).trans rfl;have hfz22_0:=blk_frozen BK297.out 0;obtain ⟨Ao23,co23,eo23⟩:=Kd.S_slice HO302.out;subst eo23)|(go_at_call 67;(with_reducible refine (impl_Sign_isClause.calls kj2 _ _ l0_0 _ _ t300 true _ ?side1 ?side2 ?side3 ?side4 A15.out).mono ?_);(case side1=>exact sC HR0_0);(case side2=>exact HC0_0.out);(case side3=>repeat (first|exact (Kd.S_reads' HO302.out).2.2|(with_reducible refine Kd.C_alloc ?_ _)|(with_reducible refine Kd.C_drewN ?_ _)|(with_reducible refine Kd.C_drew ?_)));(case side4=>exact (Kd.S_reads' HO302.out).2.1);rintro e w24 ⟨rfl,hb⟩;replace HO302:=Aside0.mk (Kd.S_below (rS HO302) hb);replace BK297:=Aside0.mk (blk_below (bB BK297) hb);replace HB:=Aside0.mk (below_step Yc hb);replace HI299:=Aside0.mk (IsS89.below Ye hb);(try clear hb);(try clear hb2);(try clear hk);(try clear hi)));try go_wp2_with (first|((with_reducible refine gate_dst (N:=20) rfl ?_);(try (refine gate_guard (by rfl) ?_;dsimp only));refine box_event ?hg (N:=20) ?hd (cs:=#[.slice A0_0 l0_0.length c0_0,.string a1,.int .i64 0,.int .i64 12,.bool false]) (t:=89) ?hr ?_;(case hd=>rfl);(case hg=>rfl);(case hr=>first|(go_simp;done)|(go_simp;rfl));intro gb299 hg w18 hbox hb;have BK299:=Aside0.mk (hbox);have GW299:=Aside0.mk ((hZ:w.heap.size ≤ gb299));have GE299:=Aside0.mk ((hZ:w.heap.size ≤ gb299));replace HB:=Aside0.mk (below_step bH hb);have NB297_299:=Aside0.mk ((nL BK297:gb297 ≠ gb299));have NB299_297:=Aside0.mk ((nG BK297:gb299 ≠ gb297));replace BK297:=Aside0.mk (blk_below (bB BK297) hb);clear hb hbox hg;have HI299:=Aside0.mk (show IsS89 w w18 gb299 l0_0 a1 0 12 false from ⟨_,_,BK299.out,GW299.out,HR0_0.out⟩);clear BK299)|(go_at_call 65;(with_reducible refine (impl_parser_clause.calls kj2 gb299 l0_0 a1 0 12 false t300 t303 t304 t305 t306 w _ ?side1 ?side2 A12.out).mono ?_);(case side1=>repeat (first|(with_reducible first|exact HI299.out|apply IsS89.alloc|apply IsS89.drewN|apply IsS89.drew|apply IsS89.set_1|apply IsS89.set_2|apply IsS89.set_3|apply IsS89.set_4|refine IsS89.far ?_ NB299_297.out _)|exact HI299.out));(case side2=>repeat (first|(with_reducible first|exact HB.out|apply below_alloc|apply pw_below_drewN|apply below_drew1|refine below_set ?_ (IsS89.ge HI299.out)|refine below_set ?_ GE297.out)|exact HB.out));rintro e w19 ⟨v301,rfl,ho0,hi,hb,hk⟩;replace BK297:=Aside0.mk (KeepBut.blk hk (g':=gb297) (o:=.cells #[.slice A0_0 l0_0.length c0_0] 30 (0,0)) (bB BK297) NB297_299.out (by simp));have HO302:=Aside0.mk (Kd.S_lower ho0 (below_size Yc));replace HB:=Aside0.mk (hb);replace HI299:=Aside0.mk (hi);(try clear hb);(try clear hb2);(try clear hk);(try clear hi);(try clear ho0))|(go_at_call 66;(with_reducible refine (impl_parser_done.calls gb299 l0_0 t303 t304 t305 t306 true t308 t309 t310 t311 w _ ?side1 ?side2 A13.out).mono ?_);(case side1=>repeat (first|(with_reducible first|exact HI299.out|apply IsS89.alloc|apply IsS89.drewN|apply IsS89.drew|apply IsS89.set_1|apply IsS89.set_2|apply IsS89.set_3|apply IsS89.set_4|refine IsS89.far ?_ NB299_297.out _)|exact HI299.out));(case side2=>repeat (first|(with_reducible first|exact HB.out|apply below_alloc|apply pw_below_drewN|apply below_drew1|refine below_set ?_ (IsS89.ge HI299.out)|refine below_set ?_ GE297.out)|exact HB.out));rintro e w20 ⟨rfl,hi,hb,hk⟩;replace BK297:=Aside0.mk (KeepBut.blk hk (g':=gb297) (o:=.cells #[.slice A0_0 l0_0.length c0_0] 30 (0,0)) (bB BK297) NB297_299.out (by simp));replace HO302:=Aside0.mk (Kd.S_mono (Kd.S_keep (IsS89.apartS (show IsS89 w _ gb299 l0_0 t303 t304 t305 t306 from by repeat (first|(with_reducible first|exact HI299.out|apply IsS89.alloc|apply IsS89.drewN|apply IsS89.drew|apply IsS89.set_1|apply IsS89.set_2|apply IsS89.set_3|apply IsS89.set_4|refine IsS89.far ?_ NB299_297.out _)|exact HI299.out)) (rS HO302) (by decide)) hk (fun _ h=>h.2)) (fun _ h=>h.1));replace HB:=Aside0.mk (hb);replace HI299:=Aside0.mk (hi);(try clear hb);(try clear hb2);(try clear hk);(try clear hi);have hnb21:=NB297_299.out;have hnc21:=NB299_297.out;have hcz22_0:w20.cell? ⟨gb297,0,none⟩ = some (.slice A0_0 l0_0.length c0_0):=(blk_cell BK297.out 0).trans rfl;have hfz22_0:=blk_frozen BK297.out 0;obtain ⟨Ao23,co23,eo23⟩:=Kd.S_slice HO302.out;subst eo23)|(go_at_call 67;(with_reducible refine (impl_Sign_isClause.calls kj2 _ _ l0_0 _ _ t300 true _ ?side1 ?side2 ?side3 ?side4 A15.out).mono ?_);(case side1=>exact sC HR0_0);(case side2=>exact HC0_0.out);(case side3=>repeat (first|exact (Kd.S_reads' HO302.out).2.2|(with_reducible refine Kd.C_alloc ?_ _)|(with_reducible refine Kd.C_drewN ?_ _)|(with_reducible refine Kd.C_drew ?_)));(case side4=>exact (Kd.S_reads' HO302.out).2.1);rintro e w24 ⟨rfl,hb⟩;replace HO302:=Aside0.mk (Kd.S_below (rS HO302) hb);replace BK297:=Aside0.mk (blk_below (bB BK297) hb);replace HB:=Aside0.mk (below_step Yc hb);replace HI299:=Aside0.mk (IsS89.below Ye hb);(try clear hb);(try clear hb2);(try clear hk);(try clear hi))))
      go_ret3
      exact ⟨_,by first|rfl|(simp [errW_none,errW_some] <;> rfl)|(simp [*,errW_none,errW_some] <;> rfl),rS HO302,by repeat (first|(with_reducible first|exact HB.out|apply below_alloc|apply pw_below_drewN|apply below_drew1|refine below_set ?_ (IsS89.ge HI299.out)|refine below_set ?_ GE297.out)|exact HB.out)⟩
     ·replace c16:=Bool.eq_false_iff.mpr c16
      subst c16
      have H1:(some (([]:List (S65)),0,false)) = some (r1,r2,r3):=by rw [if_neg (show ¬ (false = true) by decide)] at H;exact H
      clear H
      have H:=H1
      clear H1
      simp only [Option.some.injEq,Prod.mk.injEq] at H
      obtain ⟨rfl,rfl,rfl⟩:=H
      have hcz25_0:wc.cell? ⟨gb297,0,none⟩ = some (.slice A0_0 l0_0.length c0_0):=(blk_cell BK297.out 0).trans rfl
      have hfz25_0:=blk_frozen BK297.out 0
      go_wp2_with (first|((with_reducible refine gate_dst (N:=20) rfl ?_);(try (refine gate_guard (by rfl) ?_;dsimp only));refine box_event ?hg (N:=20) ?hd (cs:=#[.slice A0_0 l0_0.length c0_0,.string a1,.int .i64 0,.int .i64 12,.bool false]) (t:=89) ?hr ?_;(case hd=>rfl);(case hg=>rfl);(case hr=>first|(go_simp;done)|(go_simp;rfl));intro gb299 hg w26 hbox hb;have BK299:=Aside0.mk (hbox);have GW299:=Aside0.mk ((hZ:w.heap.size ≤ gb299));have GE299:=Aside0.mk ((hZ:w.heap.size ≤ gb299));replace HB:=Aside0.mk (below_step bH hb);have NB297_299:=Aside0.mk ((nL BK297:gb297 ≠ gb299));have NB299_297:=Aside0.mk ((nG BK297:gb299 ≠ gb297));replace BK297:=Aside0.mk (blk_below (bB BK297) hb);clear hb hbox hg;have HI299:=Aside0.mk (show IsS89 w w26 gb299 l0_0 a1 0 12 false from ⟨_,_,BK299.out,GW299.out,HR0_0.out⟩);clear BK299)|(go_at_call 65;(with_reducible refine (impl_parser_clause.calls kj2 gb299 l0_0 a1 0 12 false t300 t303 t304 t305 t306 w _ ?side1 ?side2 A12.out).mono ?_);(case side1=>repeat (first|(with_reducible first|exact HI299.out|apply IsS89.alloc|apply IsS89.drewN|apply IsS89.drew|apply IsS89.set_1|apply IsS89.set_2|apply IsS89.set_3|apply IsS89.set_4|refine IsS89.far ?_ NB299_297.out _)|exact HI299.out));(case side2=>repeat (first|(with_reducible first|exact HB.out|apply below_alloc|apply pw_below_drewN|apply below_drew1|refine below_set ?_ (IsS89.ge HI299.out)|refine below_set ?_ GE297.out)|exact HB.out));rintro e w27 ⟨v301,rfl,ho0,hi,hb,hk⟩;replace BK297:=Aside0.mk (KeepBut.blk hk (g':=gb297) (o:=.cells #[.slice A0_0 l0_0.length c0_0] 30 (0,0)) (bB BK297) NB297_299.out (by simp));have HO302:=Aside0.mk (Kd.S_lower ho0 (below_size Yc));replace HB:=Aside0.mk (hb);replace HI299:=Aside0.mk (hi);(try clear hb);(try clear hb2);(try clear hk);(try clear hi);(try clear ho0))|(go_at_call 66;(with_reducible refine (impl_parser_done.calls gb299 l0_0 t303 t304 t305 t306 true t308 t309 t310 t311 w _ ?side1 ?side2 A13.out).mono ?_);(case side1=>repeat (first|(with_reducible first|exact HI299.out|apply IsS89.alloc|apply IsS89.drewN|apply IsS89.drew|apply IsS89.set_1|apply IsS89.set_2|apply IsS89.set_3|apply IsS89.set_4|refine IsS89.far ?_ NB299_297.out _)|exact HI299.out));(case side2=>repeat (first|(with_reducible first|exact HB.out|apply below_alloc|apply pw_below_drewN|apply below_drew1|refine below_set ?_ (IsS89.ge HI299.out)|refine below_set ?_ GE297.out)|exact HB.out));rintro e w28 ⟨rfl,hi,hb,hk⟩;replace BK297:=Aside0.mk (KeepBut.blk hk (g':=gb297) (o:=.cells #[.slice A0_0 l0_0.length c0_0] 30 (0,0)) (bB BK297) NB297_299.out (by simp));replace HO302:=Aside0.mk (Kd.S_mono (Kd.S_keep (IsS89.apartS (show IsS89 w _ gb299 l0_0 t303 t304 t305 t306 from by repeat (first|(with_reducible first|exact HI299.out|apply IsS89.alloc|apply IsS89.drewN|apply IsS89.drew|apply IsS89.set_1|apply IsS89.set_2|apply IsS89.set_3|apply IsS89.set_4|refine IsS89.far ?_ NB299_297.out _)|exact HI299.out)) (rS HO302) (by decide)) hk (fun _ h=>h.2)) (fun _ h=>h.1));replace HB:=Aside0.mk (hb);replace HI299:=Aside0.mk (hi);(try clear hb);(try clear hb2);(try clear hk);(try clear hi);have hnb29:=NB297_299.out;have hnc29:=NB299_297.out;have hcz30_0:w28.cell? ⟨gb297,0,none⟩ = some (.slice A0_0 l0_0.length c0_0):=(blk_cell BK297.out 0).trans rfl;have hfz30_0:=blk_frozen BK297.out 0;obtain ⟨Ao31,co31,eo31⟩:=Kd.S_slice HO302.out;subst eo31)|(go_at_call 67;(with_reducible refine (impl_Sign_isClause.calls kj2 _ _ l0_0 _ _ t300 false _ ?side1 ?side2 ?side3 ?side4 A15.out).mono ?_);(case side1=>exact sC HR0_0);(case side2=>exact HC0_0.out);(case side3=>repeat (first|exact (Kd.S_reads' HO302.out).2.2|(with_reducible refine Kd.C_alloc ?_ _)|(with_reducible refine Kd.C_drewN ?_ _)|(with_reducible refine Kd.C_drew ?_)));(case side4=>exact (Kd.S_reads' HO302.out).2.1);rintro e w32 ⟨rfl,hb⟩;replace HO302:=Aside0.mk (Kd.S_below (rS HO302) hb);replace BK297:=Aside0.mk (blk_below (bB BK297) hb);replace HB:=Aside0.mk (below_step Yc hb);replace HI299:=Aside0.mk (IsS89.below Ye hb);(try clear hb);(try clear hb2);(try clear hk);(try clear hi)))
      repeat (go_quiet (first|((with_reducible refine gate_dst (N:=20) rfl ?_);(try (refine gate_guard (by rfl) ?_;dsimp only));refine box_event ?hg (N:=20) ?hd (cs:=#[.slice A0_0 l0_0.length c0_0,.string a1,.int .i64 0,.int .i64 12,.bool false]) (t:=89) ?hr ?_;(case hd=>rfl);(case hg=>rfl);(case hr=>first|(go_simp;done)|(go_simp;rfl));intro gb299 hg w26 hbox hb;have BK299:=Aside0.mk (hbox);have GW299:=Aside0.mk ((hZ:w.heap.size ≤ gb299));have GE299:=Aside0.mk ((hZ:w.heap.size ≤ gb299));replace HB:=Aside0.mk (below_step bH hb);have NB297_299:=Aside0.mk ((nL BK297:gb297 ≠ gb299));have NB299_297:=Aside0.mk ((nG BK297:gb299 ≠ gb297));replace BK297:=Aside0.mk (blk_below (bB BK297) hb);clear hb hbox hg;have HI299:=Aside0.mk (show IsS89 w w26 gb299 l0_0 a1 0 12 false from ⟨_,_,BK299.out,GW299.out,HR0_0.out⟩);clear BK299)|(go_at_call 65;(with_reducible refine (impl_parser_clause.calls kj2 gb299 l0_0 a1 0 12 false t300 t303 t304 t305 t306 w _ ?side1 ?side2 A12.out).mono ?_);(case side1=>repeat (first|(with_reducible first|exact HI299.out|apply IsS89.alloc|apply IsS89.drewN|apply IsS89.drew|apply IsS89.set_1|apply IsS89.set_2|apply IsS89.set_3|apply IsS89.set_4|refine IsS89.far ?_ NB299_297.out _)|exact HI299.out));(case side2=>repeat (first|(with_reducible first|exact HB.out|apply below_alloc|apply pw_below_drewN|apply below_drew1|refine below_set ?_ (IsS89.ge HI299.out)|refine below_set ?_ GE297.out)|exact HB.out));rintro e w27 ⟨v301,rfl,ho0,hi,hb,hk⟩;replace BK297:=Aside0.mk (KeepBut.blk hk (g':=gb297) (o:=.cells #[.slice A0_0 l0_0.length c0_0] 30 (0,0)) (bB BK297) NB297_299.out (by simp));have HO302:=Aside0.mk (Kd.S_lower ho0 (below_size Yc));replace HB:=Aside0.mk (hb);replace HI299:=Aside0.mk (hi);(try clear hb);(try clear hb2);(try clear hk);(try clear hi);(try clear ho0))|(go_at_call 66;(with_reducible refine (impl_parser_done.calls gb299 l0_0 t303 t304 t305 t306 true t308 t309 t310 t311 w _ ?side1 ?side2 A13.out).mono ?_);(case side1=>repeat (first|(with_reducible first|exact HI299.out|apply IsS89.alloc|apply IsS89.drewN|apply IsS89.drew|apply IsS89.set_1|apply IsS89.set_2|apply IsS89.set_3|apply IsS89.set_4|refine IsS89.far ?_ NB299_297.out _)|exact HI299.out));(case side2=>repeat (first|(with_reducible first|exact HB.out|apply below_alloc|apply pw_below_drewN|apply below_drew1|refine below_set ?_ (IsS89.ge HI299.out)|refine below_set ?_ GE297.out)|exact HB.out));rintro e w28 ⟨rfl,hi,hb,hk⟩;replace BK297:=Aside0.mk (KeepBut.blk hk (g':=gb297) (o:=.cells #[.slice A0_0 l0_0.length c0_0] 30 (0,0)) (bB BK297) NB297_299.out (by simp));replace HO302:=Aside0.mk (Kd.S_mono (Kd.S_keep (IsS89.apartS (show IsS89 w _ gb299 l0_0 t303 t304 t305 t306 from by repeat (first|(with_reducible first|exact HI299.out|apply IsS89.alloc|apply IsS89.drewN|apply IsS89.drew|apply IsS89.set_1|apply IsS89.set_2|apply IsS89.set_3|apply IsS89.set_4|refine IsS89.far ?_ NB299_297.out _)|exact HI299.out)) (rS HO302) (by decide)) hk (fun _ h=>h.2)) (fun _ h=>h.1));replace HB:=Aside0.mk (hb);replace HI299:=Aside0.mk (hi);(try clear hb);(try clear hb2);(try clear hk);(try clear hi);have hnb29:=NB297_299.out;have hnc29:=NB299_297.out;have hcz30_0:w28.cell? ⟨gb297,0,none⟩ = some (.slice A0_0 l0_0.length c0_0):=(blk_cell BK297.out 0).trans rfl;have hfz30_0:=blk_frozen BK297.out 0;obtain ⟨Ao31,co31,eo31⟩:=Kd.S_slice HO302.out;subst eo31)|(go_at_call 67;(with_reducible refine (impl_Sign_isClause.calls kj2 _ _ l0_0 _ _ t300 false _ ?side1 ?side2 ?side3 ?side4 A15.out).mono ?_);(case side1=>exact sC HR0_0);(case side2=>exact HC0_0.out);(case side3=>repeat (first|exact (Kd.S_reads' HO302.out).2.2|(with_reducible refine Kd.C_alloc ?_ _)|(with_reducible refine Kd.C_drewN ?_ _)|(with_reducible refine Kd.C_drew ?_)));(case side4=>exact (Kd.S_reads' HO302.out).2.1);rintro e w32 ⟨rfl,hb⟩;replace HO302:=Aside0.mk (Kd.S_below (rS HO302) hb);replace BK297:=Aside0.mk (blk_below (bB BK297) hb);replace HB:=Aside0.mk (below_step Yc hb);replace HI299:=Aside0.mk (IsS89.below Ye hb);(try clear hb);(try clear hb2);(try clear hk);(try clear hi)));try go_wp2_with (first|((with_reducible refine gate_dst (N:=20) rfl ?_);(try (refine gate_guard (by rfl) ?_;dsimp only));refine box_event ?hg (N:=20) ?hd (cs:=#[.slice A0_0 l0_0.length c0_0,.string a1,.int .i64 0,.int .i64 12,.bool false]) (t:=89) ?hr ?_;(case hd=>rfl);(case hg=>rfl);(case hr=>first|(go_simp;done)|(go_simp;rfl));intro gb299 hg w26 hbox hb;have BK299:=Aside0.mk (hbox);have GW299:=Aside0.mk ((hZ:w.heap.size ≤ gb299));have GE299:=Aside0.mk ((hZ:w.heap.size ≤ gb299));replace HB:=Aside0.mk (below_step bH hb);have NB297_299:=Aside0.mk ((nL BK297:gb297 ≠ gb299));have NB299_297:=Aside0.mk ((nG BK297:gb299 ≠ gb297));replace BK297:=Aside0.mk (blk_below (bB BK297) hb);clear hb hbox hg;have HI299:=Aside0.mk (show IsS89 w w26 gb299 l0_0 a1 0 12 false from ⟨_,_,BK299.out,GW299.out,HR0_0.out⟩);clear BK299)|(go_at_call 65;(with_reducible refine (impl_parser_clause.calls kj2 gb299 l0_0 a1 0 12 false t300 t303 t304 t305 t306 w _ ?side1 ?side2 A12.out).mono ?_);(case side1=>repeat (first|(with_reducible first|exact HI299.out|apply IsS89.alloc|apply IsS89.drewN|apply IsS89.drew|apply IsS89.set_1|apply IsS89.set_2|apply IsS89.set_3|apply IsS89.set_4|refine IsS89.far ?_ NB299_297.out _)|exact HI299.out));(case side2=>repeat (first|(with_reducible first|exact HB.out|apply below_alloc|apply pw_below_drewN|apply below_drew1|refine below_set ?_ (IsS89.ge HI299.out)|refine below_set ?_ GE297.out)|exact HB.out));rintro e w27 ⟨v301,rfl,ho0,hi,hb,hk⟩;replace BK297:=Aside0.mk (KeepBut.blk hk (g':=gb297) (o:=.cells #[.slice A0_0 l0_0.length c0_0] 30 (0,0)) (bB BK297) NB297_299.out (by simp));have HO302:=Aside0.mk (Kd.S_lower ho0 (below_size Yc));replace HB:=Aside0.mk (hb);replace HI299:=Aside0.mk (hi);(try clear hb);(try clear hb2);(try clear hk);(try clear hi);(try clear ho0))|(go_at_call 66;(with_reducible refine (impl_parser_done.calls gb299 l0_0 t303 t304 t305 t306 true t308 t309 t310 t311 w _ ?side1 ?side2 A13.out).mono ?_);(case side1=>repeat (first|(with_reducible first|exact HI299.out|apply IsS89.alloc|apply IsS89.drewN|apply IsS89.drew|apply IsS89.set_1|apply IsS89.set_2|apply IsS89.set_3|apply IsS89.set_4|refine IsS89.far ?_ NB299_297.out _)|exact HI299.out));(case side2=>repeat (first|(with_reducible first|exact HB.out|apply below_alloc|apply pw_below_drewN|apply below_drew1|refine below_set ?_ (IsS89.ge HI299.out)|refine below_set ?_ GE297.out)|exact HB.out));rintro e w28 ⟨rfl,hi,hb,hk⟩;replace BK297:=Aside0.mk (KeepBut.blk hk (g':=gb297) (o:=.cells #[.slice A0_0 l0_0.length c0_0] 30 (0,0)) (bB BK297) NB297_299.out (by simp));replace HO302:=Aside0.mk (Kd.S_mono (Kd.S_keep (IsS89.apartS (show IsS89 w _ gb299 l0_0 t303 t304 t305 t306 from by repeat (first|(with_reducible first|exact HI299.out|apply IsS89.alloc|apply IsS89.drewN|apply IsS89.drew|apply IsS89.set_1|apply IsS89.set_2|apply IsS89.set_3|apply IsS89.set_4|refine IsS89.far ?_ NB299_297.out _)|exact HI299.out)) (rS HO302) (by decide)) hk (fun _ h=>h.2)) (fun _ h=>h.1));replace HB:=Aside0.mk (hb);replace HI299:=Aside0.mk (hi);(try clear hb);(try clear hb2);(try clear hk);(try clear hi);have hnb29:=NB297_299.out;have hnc29:=NB299_297.out;have hcz30_0:w28.cell? ⟨gb297,0,none⟩ = some (.slice A0_0 l0_0.length c0_0):=(blk_cell BK297.out 0).trans rfl;have hfz30_0:=blk_frozen BK297.out 0;obtain ⟨Ao31,co31,eo31⟩:=Kd.S_slice HO302.out;subst eo31)|(go_at_call 67;(with_reducible refine (impl_Sign_isClause.calls kj2 _ _ l0_0 _ _ t300 false _ ?side1 ?side2 ?side3 ?side4 A15.out).mono ?_);(case side1=>exact sC HR0_0);(case side2=>exact HC0_0.out);(case side3=>repeat (first|exact (Kd.S_reads' HO302.out).2.2|(with_reducible refine Kd.C_alloc ?_ _)|(with_reducible refine Kd.C_drewN ?_ _)|(with_reducible refine Kd.C_drew ?_)));(case side4=>exact (Kd.S_reads' HO302.out).2.1);rintro e w32 ⟨rfl,hb⟩;replace HO302:=Aside0.mk (Kd.S_below (rS HO302) hb);replace BK297:=Aside0.mk (blk_below (bB BK297) hb);replace HB:=Aside0.mk (below_step Yc hb);replace HI299:=Aside0.mk (IsS89.below Ye hb);(try clear hb);(try clear hb2);(try clear hk);(try clear hi))))
      go_ret3
      exact ⟨_,by first|rfl|(simp [errW_none,errW_some] <;> rfl)|(simp [*,errW_none,errW_some] <;> rfl),by first|exact Kd.S_nil _ _ _ _ _|exact Kd.N_nil _ _ _ _ _|exact Kd.V_nil _ _ _ _ _|exact Kd.Q_nil _ _ _ _ _|exact Kd.R_nil _ _ _ _ _,by repeat (first|(with_reducible first|exact HB.out|apply below_alloc|apply pw_below_drewN|apply below_drew1|refine below_set ?_ (IsS89.ge HI299.out)|refine below_set ?_ GE297.out)|exact HB.out)⟩
    ·replace c14:=Bool.eq_false_iff.mpr c14
     subst c14
     have H1:(some (([]:List (S65)),t309,false)) = some (r1,r2,r3):=by rw [if_neg (show ¬ (false = true) by decide)] at H;exact H
     clear H
     have H:=H1
     clear H1
     simp only [Option.some.injEq,Prod.mk.injEq] at H
     obtain ⟨rfl,rfl,rfl⟩:=H
     have hcz33_0:wc.cell? ⟨gb297,0,none⟩ = some (.slice A0_0 l0_0.length c0_0):=(blk_cell BK297.out 0).trans rfl
     have hfz33_0:=blk_frozen BK297.out 0
     go_wp2_with (first|((with_reducible refine gate_dst (N:=20) rfl ?_);(try (refine gate_guard (by rfl) ?_;dsimp only));refine box_event ?hg (N:=20) ?hd (cs:=#[.slice A0_0 l0_0.length c0_0,.string a1,.int .i64 0,.int .i64 12,.bool false]) (t:=89) ?hr ?_;(case hd=>rfl);(case hg=>rfl);(case hr=>first|(go_simp;done)|(go_simp;rfl));intro gb299 hg w34 hbox hb;have BK299:=Aside0.mk (hbox);have GW299:=Aside0.mk ((hZ:w.heap.size ≤ gb299));have GE299:=Aside0.mk ((hZ:w.heap.size ≤ gb299));replace HB:=Aside0.mk (below_step bH hb);have NB297_299:=Aside0.mk ((nL BK297:gb297 ≠ gb299));have NB299_297:=Aside0.mk ((nG BK297:gb299 ≠ gb297));replace BK297:=Aside0.mk (blk_below (bB BK297) hb);clear hb hbox hg;have HI299:=Aside0.mk (show IsS89 w w34 gb299 l0_0 a1 0 12 false from ⟨_,_,BK299.out,GW299.out,HR0_0.out⟩);clear BK299)|(go_at_call 65;(with_reducible refine (impl_parser_clause.calls kj2 gb299 l0_0 a1 0 12 false t300 t303 t304 t305 t306 w _ ?side1 ?side2 A12.out).mono ?_);(case side1=>repeat (first|(with_reducible first|exact HI299.out|apply IsS89.alloc|apply IsS89.drewN|apply IsS89.drew|apply IsS89.set_1|apply IsS89.set_2|apply IsS89.set_3|apply IsS89.set_4|refine IsS89.far ?_ NB299_297.out _)|exact HI299.out));(case side2=>repeat (first|(with_reducible first|exact HB.out|apply below_alloc|apply pw_below_drewN|apply below_drew1|refine below_set ?_ (IsS89.ge HI299.out)|refine below_set ?_ GE297.out)|exact HB.out));rintro e w35 ⟨v301,rfl,ho0,hi,hb,hk⟩;replace BK297:=Aside0.mk (KeepBut.blk hk (g':=gb297) (o:=.cells #[.slice A0_0 l0_0.length c0_0] 30 (0,0)) (bB BK297) NB297_299.out (by simp));have HO302:=Aside0.mk (Kd.S_lower ho0 (below_size Yc));replace HB:=Aside0.mk (hb);replace HI299:=Aside0.mk (hi);(try clear hb);(try clear hb2);(try clear hk);(try clear hi);(try clear ho0))|(go_at_call 66;(with_reducible refine (impl_parser_done.calls gb299 l0_0 t303 t304 t305 t306 false t308 t309 t310 t311 w _ ?side1 ?side2 A13.out).mono ?_);(case side1=>repeat (first|(with_reducible first|exact HI299.out|apply IsS89.alloc|apply IsS89.drewN|apply IsS89.drew|apply IsS89.set_1|apply IsS89.set_2|apply IsS89.set_3|apply IsS89.set_4|refine IsS89.far ?_ NB299_297.out _)|exact HI299.out));(case side2=>repeat (first|(with_reducible first|exact HB.out|apply below_alloc|apply pw_below_drewN|apply below_drew1|refine below_set ?_ (IsS89.ge HI299.out)|refine below_set ?_ GE297.out)|exact HB.out));rintro e w36 ⟨rfl,hi,hb,hk⟩;replace BK297:=Aside0.mk (KeepBut.blk hk (g':=gb297) (o:=.cells #[.slice A0_0 l0_0.length c0_0] 30 (0,0)) (bB BK297) NB297_299.out (by simp));replace HO302:=Aside0.mk (Kd.S_mono (Kd.S_keep (IsS89.apartS (show IsS89 w _ gb299 l0_0 t303 t304 t305 t306 from by repeat (first|(with_reducible first|exact HI299.out|apply IsS89.alloc|apply IsS89.drewN|apply IsS89.drew|apply IsS89.set_1|apply IsS89.set_2|apply IsS89.set_3|apply IsS89.set_4|refine IsS89.far ?_ NB299_297.out _)|exact HI299.out)) (rS HO302) (by decide)) hk (fun _ h=>h.2)) (fun _ h=>h.1));replace HB:=Aside0.mk (hb);replace HI299:=Aside0.mk (hi);(try clear hb);(try clear hb2);(try clear hk);(try clear hi);obtain ⟨ASz37_0,cSz37_0,HGz37,hgz37,HSz37_0⟩:=HI299.out;have hcz37_0:=cellS89_0 HGz37;have hcz37_1:=cellS89_1 HGz37;have hcz37_2:=cellS89_2 HGz37;have hcz37_3:=cellS89_3 HGz37;have hcz37_4:=cellS89_4 HGz37;have hfz37_1:=blk_frozen HGz37 1;have hfz37_2:=blk_frozen HGz37 2;have hfz37_3:=blk_frozen HGz37 3;have hfz37_4:=blk_frozen HGz37 4;clear HGz37 hgz37))
     repeat (go_quiet (first|((with_reducible refine gate_dst (N:=20) rfl ?_);(try (refine gate_guard (by rfl) ?_;dsimp only));refine box_event ?hg (N:=20) ?hd (cs:=#[.slice A0_0 l0_0.length c0_0,.string a1,.int .i64 0,.int .i64 12,.bool false]) (t:=89) ?hr ?_;(case hd=>rfl);(case hg=>rfl);(case hr=>first|(go_simp;done)|(go_simp;rfl));intro gb299 hg w34 hbox hb;have BK299:=Aside0.mk (hbox);have GW299:=Aside0.mk ((hZ:w.heap.size ≤ gb299));have GE299:=Aside0.mk ((hZ:w.heap.size ≤ gb299));replace HB:=Aside0.mk (below_step bH hb);have NB297_299:=Aside0.mk ((nL BK297:gb297 ≠ gb299));have NB299_297:=Aside0.mk ((nG BK297:gb299 ≠ gb297));replace BK297:=Aside0.mk (blk_below (bB BK297) hb);clear hb hbox hg;have HI299:=Aside0.mk (show IsS89 w w34 gb299 l0_0 a1 0 12 false from ⟨_,_,BK299.out,GW299.out,HR0_0.out⟩);clear BK299)|(go_at_call 65;(with_reducible refine (impl_parser_clause.calls kj2 gb299 l0_0 a1 0 12 false t300 t303 t304 t305 t306 w _ ?side1 ?side2 A12.out).mono ?_);(case side1=>repeat (first|(with_reducible first|exact HI299.out|apply IsS89.alloc|apply IsS89.drewN|apply IsS89.drew|apply IsS89.set_1|apply IsS89.set_2|apply IsS89.set_3|apply IsS89.set_4|refine IsS89.far ?_ NB299_297.out _)|exact HI299.out));(case side2=>repeat (first|(with_reducible first|exact HB.out|apply below_alloc|apply pw_below_drewN|apply below_drew1|refine below_set ?_ (IsS89.ge HI299.out)|refine below_set ?_ GE297.out)|exact HB.out));rintro e w35 ⟨v301,rfl,ho0,hi,hb,hk⟩;replace BK297:=Aside0.mk (KeepBut.blk hk (g':=gb297) (o:=.cells #[.slice A0_0 l0_0.length c0_0] 30 (0,0)) (bB BK297) NB297_299.out (by simp));have HO302:=Aside0.mk (Kd.S_lower ho0 (below_size Yc));replace HB:=Aside0.mk (hb);replace HI299:=Aside0.mk (hi);(try clear hb);(try clear hb2);(try clear hk);(try clear hi);(try clear ho0))|(go_at_call 66;(with_reducible refine (impl_parser_done.calls gb299 l0_0 t303 t304 t305 t306 false t308 t309 t310 t311 w _ ?side1 ?side2 A13.out).mono ?_);(case side1=>repeat (first|(with_reducible first|exact HI299.out|apply IsS89.alloc|apply IsS89.drewN|apply IsS89.drew|apply IsS89.set_1|apply IsS89.set_2|apply IsS89.set_3|apply IsS89.set_4|refine IsS89.far ?_ NB299_297.out _)|exact HI299.out));(case side2=>repeat (first|(with_reducible first|exact HB.out|apply below_alloc|apply pw_below_drewN|apply below_drew1|refine below_set ?_ (IsS89.ge HI299.out)|refine below_set ?_ GE297.out)|exact HB.out));rintro e w36 ⟨rfl,hi,hb,hk⟩;replace BK297:=Aside0.mk (KeepBut.blk hk (g':=gb297) (o:=.cells #[.slice A0_0 l0_0.length c0_0] 30 (0,0)) (bB BK297) NB297_299.out (by simp));replace HO302:=Aside0.mk (Kd.S_mono (Kd.S_keep (IsS89.apartS (show IsS89 w _ gb299 l0_0 t303 t304 t305 t306 from by repeat (first|(with_reducible first|exact HI299.out|apply IsS89.alloc|apply IsS89.drewN|apply IsS89.drew|apply IsS89.set_1|apply IsS89.set_2|apply IsS89.set_3|apply IsS89.set_4|refine IsS89.far ?_ NB299_297.out _)|exact HI299.out)) (rS HO302) (by decide)) hk (fun _ h=>h.2)) (fun _ h=>h.1));replace HB:=Aside0.mk (hb);replace HI299:=Aside0.mk (hi);(try clear hb);(try clear hb2);(try clear hk);(try clear hi);obtain ⟨ASz37_0,cSz37_0,HGz37,hgz37,HSz37_0⟩:=HI299.out;have hcz37_0:=cellS89_0 HGz37;have hcz37_1:=cellS89_1 HGz37;have hcz37_2:=cellS89_2 HGz37;have hcz37_3:=cellS89_3 HGz37;have hcz37_4:=cellS89_4 HGz37;have hfz37_1:=blk_frozen HGz37 1;have hfz37_2:=blk_frozen HGz37 2;have hfz37_3:=blk_frozen HGz37 3;have hfz37_4:=blk_frozen HGz37 4;clear HGz37 hgz37));try go_wp2_with (first|((with_reducible refine gate_dst (N:=20) rfl ?_);(try (refine gate_guard (by rfl) ?_;dsimp only));refine box_event ?hg (N:=20) ?hd (cs:=#[.slice A0_0 l0_0.length c0_0,.string a1,.int .i64 0,.int .i64 12,.bool false]) (t:=89) ?hr ?_;(case hd=>rfl);(case hg=>rfl);(case hr=>first|(go_simp;done)|(go_simp;rfl));intro gb299 hg w34 hbox hb;have BK299:=Aside0.mk (hbox);have GW299:=Aside0.mk ((hZ:w.heap.size ≤ gb299));have GE299:=Aside0.mk ((hZ:w.heap.size ≤ gb299));replace HB:=Aside0.mk (below_step bH hb);have NB297_299:=Aside0.mk ((nL BK297:gb297 ≠ gb299));have NB299_297:=Aside0.mk ((nG BK297:gb299 ≠ gb297));replace BK297:=Aside0.mk (blk_below (bB BK297) hb);clear hb hbox hg;have HI299:=Aside0.mk (show IsS89 w w34 gb299 l0_0 a1 0 12 false from ⟨_,_,BK299.out,GW299.out,HR0_0.out⟩);clear BK299)|(go_at_call 65;(with_reducible refine (impl_parser_clause.calls kj2 gb299 l0_0 a1 0 12 false t300 t303 t304 t305 t306 w _ ?side1 ?side2 A12.out).mono ?_);(case side1=>repeat (first|(with_reducible first|exact HI299.out|apply IsS89.alloc|apply IsS89.drewN|apply IsS89.drew|apply IsS89.set_1|apply IsS89.set_2|apply IsS89.set_3|apply IsS89.set_4|refine IsS89.far ?_ NB299_297.out _)|exact HI299.out));(case side2=>repeat (first|(with_reducible first|exact HB.out|apply below_alloc|apply pw_below_drewN|apply below_drew1|refine below_set ?_ (IsS89.ge HI299.out)|refine below_set ?_ GE297.out)|exact HB.out));rintro e w35 ⟨v301,rfl,ho0,hi,hb,hk⟩;replace BK297:=Aside0.mk (KeepBut.blk hk (g':=gb297) (o:=.cells #[.slice A0_0 l0_0.length c0_0] 30 (0,0)) (bB BK297) NB297_299.out (by simp));have HO302:=Aside0.mk (Kd.S_lower ho0 (below_size Yc));replace HB:=Aside0.mk (hb);replace HI299:=Aside0.mk (hi);(try clear hb);(try clear hb2);(try clear hk);(try clear hi);(try clear ho0))|(go_at_call 66;(with_reducible refine (impl_parser_done.calls gb299 l0_0 t303 t304 t305 t306 false t308 t309 t310 t311 w _ ?side1 ?side2 A13.out).mono ?_);(case side1=>repeat (first|(with_reducible first|exact HI299.out|apply IsS89.alloc|apply IsS89.drewN|apply IsS89.drew|apply IsS89.set_1|apply IsS89.set_2|apply IsS89.set_3|apply IsS89.set_4|refine IsS89.far ?_ NB299_297.out _)|exact HI299.out));(case side2=>repeat (first|(with_reducible first|exact HB.out|apply below_alloc|apply pw_below_drewN|apply below_drew1|refine below_set ?_ (IsS89.ge HI299.out)|refine below_set ?_ GE297.out)|exact HB.out));rintro e w36 ⟨rfl,hi,hb,hk⟩;replace BK297:=Aside0.mk (KeepBut.blk hk (g':=gb297) (o:=.cells #[.slice A0_0 l0_0.length c0_0] 30 (0,0)) (bB BK297) NB297_299.out (by simp));replace HO302:=Aside0.mk (Kd.S_mono (Kd.S_keep (IsS89.apartS (show IsS89 w _ gb299 l0_0 t303 t304 t305 t306 from by repeat (first|(with_reducible first|exact HI299.out|apply IsS89.alloc|apply IsS89.drewN|apply IsS89.drew|apply IsS89.set_1|apply IsS89.set_2|apply IsS89.set_3|apply IsS89.set_4|refine IsS89.far ?_ NB299_297.out _)|exact HI299.out)) (rS HO302) (by decide)) hk (fun _ h=>h.2)) (fun _ h=>h.1));replace HB:=Aside0.mk (hb);replace HI299:=Aside0.mk (hi);(try clear hb);(try clear hb2);(try clear hk);(try clear hi);obtain ⟨ASz37_0,cSz37_0,HGz37,hgz37,HSz37_0⟩:=HI299.out;have hcz37_0:=cellS89_0 HGz37;have hcz37_1:=cellS89_1 HGz37;have hcz37_2:=cellS89_2 HGz37;have hcz37_3:=cellS89_3 HGz37;have hcz37_4:=cellS89_4 HGz37;have hfz37_1:=blk_frozen HGz37 1;have hfz37_2:=blk_frozen HGz37 2;have hfz37_3:=blk_frozen HGz37 3;have hfz37_4:=blk_frozen HGz37 4;clear HGz37 hgz37)))
     go_ret3
     exact ⟨_,by first|rfl|(simp [errW_none,errW_some] <;> rfl)|(simp [*,errW_none,errW_some] <;> rfl),by first|exact Kd.S_nil _ _ _ _ _|exact Kd.N_nil _ _ _ _ _|exact Kd.V_nil _ _ _ _ _|exact Kd.Q_nil _ _ _ _ _|exact Kd.R_nil _ _ _ _ _,by repeat (first|(with_reducible first|exact HB.out|apply below_alloc|apply pw_below_drewN|apply below_drew1|refine below_set ?_ (IsS89.ge HI299.out)|refine below_set ?_ GE297.out)|exact HB.out)⟩

end Go.Proofs.Ytlgnanbnicmdaab.QFnExactReadClause
