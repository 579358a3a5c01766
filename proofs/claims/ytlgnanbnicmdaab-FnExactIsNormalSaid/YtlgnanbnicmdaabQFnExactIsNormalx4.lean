-- Written by this session's own program (wip/x/xprint.py, over the kit's printer); Lean checks it.
import Derived.Test.YtlgnanbnicmdaabQFnExactIsNormalx0
import Derived.Test.YtlgnanbnicmdaabQFnExactIsNormalx1
import Derived.Test.YtlgnanbnicmdaabQFnExactIsNormalx2
import Derived.Test.YtlgnanbnicmdaabQFnExactIsNormalx3
namespace Go.Proofs.Ytlgnanbnicmdaab.QFnExactIsNormal
open Go.RowKit Go.Proofs.YtlgnanbnicmdaabW.PrintWords Go.Proofs.YtlgnanbnicmdaabW.PrintLast Go.Proofs.YtlgnanbnicmdaabW.PrintMore
attribute [local go_sem] max2_int min2_int max_two min_two max_three min_three max_four min_four   -- for this text's walks alone
set_option linter.unusedVariables false
set_option linter.unusedSimpArgs false

/-! ### spec_l3Greater: function 107 -/
mutual
def spec_l3Greater.j0:Nat → List Int → List Int → Bool → Option (Bool)
 | 0,_,_,_=>none
 | k + 1,x0,x1,x16=>if x16 = true then (some false) else (if (x0.length:Int) > (x1.length:Int) then (some true) else (spec_l3Greater.l0 k x0 x1 (x0.length:Int) 0))
def spec_l3Greater.l0:Nat → List Int → List Int → Int → Int → Option (Bool)
 | 0,_,_,_,_=>none
 | k + 1,x0,x1,x23,x24=>if x24 < x23 then (if 0 ≤ x24 then (if x24 < (x0.length:Int) then (if x24 < (x1.length:Int) then (if (rd x0 x24) = (rd x1 x24) then (spec_l3Greater.l0 k x0 x1 x23 (wrap64 (x24 + 1))) else (if (rd x0 x24) ≥ 0 then (if (rd x1 x24) ≥ 0 then (some (decide ((rd x0 x24) > (rd x1 x24)))) else (some false)) else (some false))) else (none)) else (none)) else (none)) else (some false)
end
def spec_l3Greater.f (k:Nat) (l0:List Int) (l1:List Int):Option (Bool):=(spec_l3Weighs.f k l0 l1).bind fun t216=>(if t216 = true then (spec_l3Greater.j0 k l0 l1 (decide ((l0.length:Int) < (l1.length:Int)))) else (spec_l3Greater.j0 k l0 l1 true))
theorem spec_l3Greater.mono_l:∀ k,(∀ y0 y1 y2,LeO (spec_l3Greater.j0 k y0 y1 y2) (spec_l3Greater.j0 (k + 1) y0 y1 y2)) ∧ (∀ y0 y1 y2 y3,LeO (spec_l3Greater.l0 k y0 y1 y2 y3) (spec_l3Greater.l0 (k + 1) y0 y1 y2 y3))
 | 0=>⟨fun _ _ _ r h=>by simp [spec_l3Greater.j0] at h,fun _ _ _ _ r h=>by simp [spec_l3Greater.l0] at h⟩
 | k + 1=>by
  obtain ⟨ih0,ih1⟩:=spec_l3Greater.mono_l k
  refine ⟨?_,?_⟩
  ·intro y0 y1 y2
   unfold spec_l3Greater.j0
   repeat' first
   | (with_reducible exact ih0 _ _ _)
   | (with_reducible exact ih1 _ _ _ _)
   | (with_reducible exact spec_l3Weighs.mono _ _ _)
   | (with_reducible exact LeO.refl _)
   | (with_reducible exact LeO.none _)
   | (with_reducible refine LeO.ite ?_ ?_)
   | (with_reducible refine LeO.bind ?_ (fun _=>?_))
   | exact ih0 _ _ _
   | exact ih1 _ _ _ _
   | exact spec_l3Weighs.mono _ _ _
   | exact LeO.none _
   | refine LeO.ite ?_ ?_
   | refine LeO.bind ?_ (fun _=>?_)
  ·intro y0 y1 y2 y3
   unfold spec_l3Greater.l0
   repeat' first
   | (with_reducible exact ih0 _ _ _)
   | (with_reducible exact ih1 _ _ _ _)
   | (with_reducible exact spec_l3Weighs.mono _ _ _)
   | (with_reducible exact LeO.refl _)
   | (with_reducible exact LeO.none _)
   | (with_reducible refine LeO.ite ?_ ?_)
   | (with_reducible refine LeO.bind ?_ (fun _=>?_))
   | exact ih0 _ _ _
   | exact ih1 _ _ _ _
   | exact spec_l3Weighs.mono _ _ _
   | exact LeO.none _
   | refine LeO.ite ?_ ?_
   | refine LeO.bind ?_ (fun _=>?_)
theorem spec_l3Greater.mono:∀ a0 a1 k,LeO (spec_l3Greater.f k a0 a1) (spec_l3Greater.f (k + 1) a0 a1):=by
 intro a0 a1 k
 obtain ⟨ih0,ih1⟩:=spec_l3Greater.mono_l k
 unfold spec_l3Greater.f
 repeat' first
   | (with_reducible exact ih0 _ _ _)
   | (with_reducible exact ih1 _ _ _ _)
   | (with_reducible exact spec_l3Weighs.mono _ _ _)
   | (with_reducible exact LeO.refl _)
   | (with_reducible exact LeO.none _)
   | (with_reducible refine LeO.ite ?_ ?_)
   | (with_reducible refine LeO.bind ?_ (fun _=>?_))
   | exact ih0 _ _ _
   | exact ih1 _ _ _ _
   | exact spec_l3Weighs.mono _ _ _
   | exact LeO.none _
   | refine LeO.ite ?_ ?_
   | refine LeO.bind ?_ (fun _=>?_)
set_option maxHeartbeats 8000000 in
set_option maxRecDepth 100000 in
theorem spec_l3Greater.calls (k:Nat) (A0:Option Addr) (c0:Nat) (l0:List Int) (A1:Option Addr) (c1:Nat) (l1:List Int) (r:Bool) (w:World) (hr0:Kd.C (Kd.int .i64) w A0 l0.length l0) (hc0:l0.length ≤ c0) (hr1:Kd.C (Kd.int .i64) w A1 l1.length l1) (hc1:l1.length ≤ c1) (h:spec_l3Greater.f k l0 l1 = some r) :
  Calls Try.prog 107 #[.slice A0 l0.length c0,.slice A1 l1.length c1] w fun e w'=>e = .returned (.bool r) ∧ Below w.heap.size w w':=by
 have HR0:=Aside0.mk hr0
 have HC0:=Aside0.mk hc0
 clear hr0 hc0
 have HR1:=Aside0.mk hr1
 have HC1:=Aside0.mk hc1
 clear hr1 hc1
 have HB:=Aside0.mk (Below.refl w.heap.size w)
 have H:((spec_l3Weighs.f k l0 l1).bind fun t216=>(if t216 = true then (spec_l3Greater.j0 k l0 l1 (decide ((l0.length:Int) < (l1.length:Int)))) else (spec_l3Greater.j0 k l0 l1 true))) = some r:=h
 clear h
 have HC3:=Aside0.mk H
 clear H
 go_enter Try.func107,Try.ntmps107
 go_upto_region 1 with (fail)
 repeat (go_quiet (fail);go_upto_region 1 with (fail))
 go_cut [16] (fun v16 wc=>∃ (kq:Nat) (x16_2:Bool),v16 = .bool x16_2 ∧ Aside0 (spec_l3Greater.j0 kq l0 l1 x16_2 = some r) ∧ Aside0 (kq ≤ k) ∧ Aside0 (Below w.heap.size w wc))
 case first =>
  have H:=HC3.out
  clear HC3
  replace H:=Option.bind_eq_some_iff.mp H
  obtain ⟨t216,A40,H⟩:=H
  replace H:(if t216 = true then (spec_l3Greater.j0 k l0 l1 (decide ((l0.length:Int) < (l1.length:Int)))) else (spec_l3Greater.j0 k l0 l1 true)) = some r:=H
  have A4:=Aside0.mk A40
  clear A40
  by_cases c5:t216 = true
  ·subst c5
   have H1:(spec_l3Greater.j0 k l0 l1 (decide ((l0.length:Int) < (l1.length:Int)))) = some r:=by rw [if_pos rfl] at H;exact H
   clear H
   have H:=H1
   clear H1
   have H':=Aside0.mk H
   clear H
   go_wp2_with (first|(go_at_call 128;(with_reducible refine (spec_l3Weighs.calls k _ _ l0 _ _ l1 true _ ?side1 ?side2 ?side3 ?side4 A4.out).mono ?_);(case side1=>repeat (first|exact (Kd.C_below HR0.out HB.out)|(with_reducible refine Kd.C_alloc ?_ _)|(with_reducible refine Kd.C_drewN ?_ _)|(with_reducible refine Kd.C_drew ?_)));(case side2=>exact HC0.out);(case side3=>repeat (first|exact (Kd.C_below HR1.out HB.out)|(with_reducible refine Kd.C_alloc ?_ _)|(with_reducible refine Kd.C_drewN ?_ _)|(with_reducible refine Kd.C_drew ?_)));(case side4=>exact HC1.out);rintro e w6 ⟨rfl,hb⟩;have n0_:=Aside0.mk (below_step (by repeat (first|(with_reducible first|exact HB.out|apply below_alloc|apply pw_below_drewN|apply below_drew1)|exact HB.out)) hb);clear HB;have HB:=n0_;clear n0_;(try clear hb);(try clear hb2);(try clear hk);(try clear hi)))
   repeat (go_quiet (first|(go_at_call 128;(with_reducible refine (spec_l3Weighs.calls k _ _ l0 _ _ l1 true _ ?side1 ?side2 ?side3 ?side4 A4.out).mono ?_);(case side1=>repeat (first|exact (Kd.C_below HR0.out HB.out)|(with_reducible refine Kd.C_alloc ?_ _)|(with_reducible refine Kd.C_drewN ?_ _)|(with_reducible refine Kd.C_drew ?_)));(case side2=>exact HC0.out);(case side3=>repeat (first|exact (Kd.C_below HR1.out HB.out)|(with_reducible refine Kd.C_alloc ?_ _)|(with_reducible refine Kd.C_drewN ?_ _)|(with_reducible refine Kd.C_drew ?_)));(case side4=>exact HC1.out);rintro e w6 ⟨rfl,hb⟩;have n0_:=Aside0.mk (below_step (by repeat (first|(with_reducible first|exact HB.out|apply below_alloc|apply pw_below_drewN|apply below_drew1)|exact HB.out)) hb);clear HB;have HB:=n0_;clear n0_;(try clear hb);(try clear hb2);(try clear hk);(try clear hi)));try go_wp2_with (first|(go_at_call 128;(with_reducible refine (spec_l3Weighs.calls k _ _ l0 _ _ l1 true _ ?side1 ?side2 ?side3 ?side4 A4.out).mono ?_);(case side1=>repeat (first|exact (Kd.C_below HR0.out HB.out)|(with_reducible refine Kd.C_alloc ?_ _)|(with_reducible refine Kd.C_drewN ?_ _)|(with_reducible refine Kd.C_drew ?_)));(case side2=>exact HC0.out);(case side3=>repeat (first|exact (Kd.C_below HR1.out HB.out)|(with_reducible refine Kd.C_alloc ?_ _)|(with_reducible refine Kd.C_drewN ?_ _)|(with_reducible refine Kd.C_drew ?_)));(case side4=>exact HC1.out);rintro e w6 ⟨rfl,hb⟩;have n0_:=Aside0.mk (below_step (by repeat (first|(with_reducible first|exact HB.out|apply below_alloc|apply pw_below_drewN|apply below_drew1)|exact HB.out)) hb);clear HB;have HB:=n0_;clear n0_;(try clear hb);(try clear hb2);(try clear hk);(try clear hi))))
   go_meet
   case rel=>exact ⟨_,(decide ((l0.length:Int) < (l1.length:Int))),(by first|rfl|(simp;done)|(simp [*];done)),H',⟨by first|omega|exact Nat.le_refl _⟩,⟨by repeat (first|(with_reducible first|exact HB.out|apply below_alloc|apply pw_below_drewN|apply below_drew1)|exact HB.out)⟩⟩
  ·replace c5:=Bool.eq_false_iff.mpr c5
   subst c5
   have H1:(spec_l3Greater.j0 k l0 l1 true) = some r:=by rw [if_neg (show ¬ (false = true) by decide)] at H;exact H
   clear H
   have H:=H1
   clear H1
   have H':=Aside0.mk H
   clear H
   go_wp2_with (first|(go_at_call 128;(with_reducible refine (spec_l3Weighs.calls k _ _ l0 _ _ l1 false _ ?side1 ?side2 ?side3 ?side4 A4.out).mono ?_);(case side1=>repeat (first|exact (Kd.C_below HR0.out HB.out)|(with_reducible refine Kd.C_alloc ?_ _)|(with_reducible refine Kd.C_drewN ?_ _)|(with_reducible refine Kd.C_drew ?_)));(case side2=>exact HC0.out);(case side3=>repeat (first|exact (Kd.C_below HR1.out HB.out)|(with_reducible refine Kd.C_alloc ?_ _)|(with_reducible refine Kd.C_drewN ?_ _)|(with_reducible refine Kd.C_drew ?_)));(case side4=>exact HC1.out);rintro e w7 ⟨rfl,hb⟩;have n0_:=Aside0.mk (below_step (by repeat (first|(with_reducible first|exact HB.out|apply below_alloc|apply pw_below_drewN|apply below_drew1)|exact HB.out)) hb);clear HB;have HB:=n0_;clear n0_;(try clear hb);(try clear hb2);(try clear hk);(try clear hi)))
   repeat (go_quiet (first|(go_at_call 128;(with_reducible refine (spec_l3Weighs.calls k _ _ l0 _ _ l1 false _ ?side1 ?side2 ?side3 ?side4 A4.out).mono ?_);(case side1=>repeat (first|exact (Kd.C_below HR0.out HB.out)|(with_reducible refine Kd.C_alloc ?_ _)|(with_reducible refine Kd.C_drewN ?_ _)|(with_reducible refine Kd.C_drew ?_)));(case side2=>exact HC0.out);(case side3=>repeat (first|exact (Kd.C_below HR1.out HB.out)|(with_reducible refine Kd.C_alloc ?_ _)|(with_reducible refine Kd.C_drewN ?_ _)|(with_reducible refine Kd.C_drew ?_)));(case side4=>exact HC1.out);rintro e w7 ⟨rfl,hb⟩;have n0_:=Aside0.mk (below_step (by repeat (first|(with_reducible first|exact HB.out|apply below_alloc|apply pw_below_drewN|apply below_drew1)|exact HB.out)) hb);clear HB;have HB:=n0_;clear n0_;(try clear hb);(try clear hb2);(try clear hk);(try clear hi)));try go_wp2_with (first|(go_at_call 128;(with_reducible refine (spec_l3Weighs.calls k _ _ l0 _ _ l1 false _ ?side1 ?side2 ?side3 ?side4 A4.out).mono ?_);(case side1=>repeat (first|exact (Kd.C_below HR0.out HB.out)|(with_reducible refine Kd.C_alloc ?_ _)|(with_reducible refine Kd.C_drewN ?_ _)|(with_reducible refine Kd.C_drew ?_)));(case side2=>exact HC0.out);(case side3=>repeat (first|exact (Kd.C_below HR1.out HB.out)|(with_reducible refine Kd.C_alloc ?_ _)|(with_reducible refine Kd.C_drewN ?_ _)|(with_reducible refine Kd.C_drew ?_)));(case side4=>exact HC1.out);rintro e w7 ⟨rfl,hb⟩;have n0_:=Aside0.mk (below_step (by repeat (first|(with_reducible first|exact HB.out|apply below_alloc|apply pw_below_drewN|apply below_drew1)|exact HB.out)) hb);clear HB;have HB:=n0_;clear n0_;(try clear hb);(try clear hb2);(try clear hk);(try clear hi))))
   go_meet
   case rel=>exact ⟨_,(true),(by first|rfl|(simp;done)|(simp [*];done)),H',⟨by first|omega|exact Nat.le_refl _⟩,⟨by repeat (first|(with_reducible first|exact HB.out|apply below_alloc|apply pw_below_drewN|apply below_drew1)|exact HB.out)⟩⟩
 case rest =>
  clear HC3
  try clear c1
  try clear p2
  try clear c5
  obtain ⟨kq,x16_2,rfl,HA,HJ2,HB⟩:=hcut
  cases kq with
  | zero=>exact absurd HA.out (by simp [spec_l3Greater.j0])
  | succ kj2 =>
   have H:=HA.out
   clear HA
   simp only [spec_l3Greater.j0] at H
   by_cases c8:x16_2 = true
   ·subst c8
    have H1:(some false) = some r:=by rw [if_pos rfl] at H;exact H
    clear H
    have H:=H1
    clear H1
    obtain rfl:=Option.some.inj H
    go_wp2
    repeat (go_quiet (fail);try go_wp2)
    go_ret
    exact ⟨by first|rfl|(simp [errW_none,errW_some] <;> rfl)|(simp [*,errW_none,errW_some] <;> rfl),by repeat (first|(with_reducible first|exact HB.out|apply below_alloc|apply pw_below_drewN|apply below_drew1)|exact HB.out)⟩
   ·replace c8:=Bool.eq_false_iff.mpr c8
    subst c8
    have H1:(if (l0.length:Int) > (l1.length:Int) then (some true) else (spec_l3Greater.l0 kj2 l0 l1 (l0.length:Int) 0)) = some r:=by rw [if_neg (show ¬ (false = true) by decide)] at H;exact H
    clear H
    have H:=H1
    clear H1
    by_cases c9:(l0.length:Int) > (l1.length:Int)
    ·rw [if_pos c9] at H
     have c9b0:decide ((l1.length:Int) < (l0.length:Int)) = true:=decide_eq_true c9
     have c9b1:decide (l1.length < l0.length) = true:=decide_eq_true (Int.ofNat_lt.mp c9)
     clear c9
     obtain rfl:=Option.some.inj H
     go_wp2
     repeat (go_quiet (fail);try go_wp2)
     go_ret
     exact ⟨by first|rfl|(simp [errW_none,errW_some] <;> rfl)|(simp [*,errW_none,errW_some] <;> rfl),by repeat (first|(with_reducible first|exact HB.out|apply below_alloc|apply pw_below_drewN|apply below_drew1)|exact HB.out)⟩
    ·rw [if_neg c9] at H
     have c9b0:decide ((l1.length:Int) < (l0.length:Int)) = false:=decide_eq_false c9
     have c9b1:decide (l1.length < l0.length) = false:=decide_eq_false (fun h=>c9 (Int.ofNat_lt.mpr h))
     clear c9
     have H':=Aside0.mk H
     clear H
     go_wp2
     repeat (go_quiet (fail);try go_wp2)
     go_loopg [24] kj2 (fun kq v24 w'=>∃ (x24_2:Int),v24 = .int .i64 x24_2 ∧ Aside0 (spec_l3Greater.l0 kq l0 l1 (l0.length:Int) x24_2 = some r) ∧ Aside0 (kq ≤ kj2) ∧ Aside0 (Below w.heap.size w w'))
     case atStart=>exact ⟨(0),(by first|rfl|(simp;done)|(simp [*];done)),H',⟨Nat.le_refl _⟩,⟨by repeat (first|(with_reducible first|exact HB.out|apply below_alloc|apply pw_below_drewN|apply below_drew1)|exact HB.out)⟩⟩
     case round =>
      clear H'
      try clear c1
      try clear p2
      try clear c5
      try clear c8
      try clear c9
      try clear c9b0
      try clear c9b1
      try clear p2
      obtain ⟨x24_2,rfl,HA,HK2,HB⟩:=hrel
      cases gk with
      | zero=>exact absurd HA.out (by simp [spec_l3Greater.l0])
      | succ k2 =>
       have H:=HA.out
       clear HA
       simp only [spec_l3Greater.l0] at H
       by_cases c10:x24_2 < (l0.length:Int)
       ·rw [if_pos c10] at H
        have c10b0:decide (x24_2 < (l0.length:Int)) = true:=decide_eq_true c10
        clear c10
        by_cases c11:0 ≤ x24_2
        ·rw [if_pos c11] at H
         have c11b0:decide (0 ≤ x24_2) = true:=decide_eq_true c11
         clear c11
         by_cases c12:x24_2 < (l0.length:Int)
         ·rw [if_pos c12] at H
          have c12b0:decide (x24_2 < (l0.length:Int)) = true:=decide_eq_true c12
          clear c12
          by_cases c13:x24_2 < (l1.length:Int)
          ·rw [if_pos c13] at H
           have c13b0:decide (x24_2 < (l1.length:Int)) = true:=decide_eq_true c13
           clear c13
           by_cases c14:(rd l0 x24_2) = (rd l1 x24_2)
           ·rw [if_pos c14] at H
            have c14b0:((rd l0 x24_2) == (rd l1 x24_2)) = true:=beq_iff_eq.mpr c14
            have c14b1:((rd l0 x24_2) != (rd l1 x24_2)) = false:=bne_eq_false_iff_eq.mpr c14
            clear c14
            have H':=Aside0.mk H
            clear H
            have p217:0 ≤ (x24_2:Int):=of_decide_eq_true (by first|(with_reducible assumption)|assumption)
            have q217:x24_2 < (l0.length:Int):=of_decide_eq_true (by first|(with_reducible assumption)|assumption)
            obtain ⟨ad217,e217,hx217_0⟩:=Kd.at_int HR0.out x24_2 p217 q217
            cases e217
            replace hx217_0:=(HB.out.cell (World.block_lt_of_cell? w _ hx217_0)).trans hx217_0
            replace p217:=eq_true p217
            replace q217:=eq_true q217
            have p218:0 ≤ (x24_2:Int):=of_decide_eq_true (by first|(with_reducible assumption)|assumption)
            have q218:x24_2 < (l1.length:Int):=of_decide_eq_true (by first|(with_reducible assumption)|assumption)
            obtain ⟨ad218,e218,hx218_0⟩:=Kd.at_int HR1.out x24_2 p218 q218
            cases e218
            replace hx218_0:=(HB.out.cell (World.block_lt_of_cell? w _ hx218_0)).trans hx218_0
            replace p218:=eq_true p218
            replace q218:=eq_true q218
            go_wp2
            repeat (go_quiet (fail);try go_wp2)
            go_roundg k2
            case measure=>have:=HJ2.out;have:=HK2.out;omega
            case rel=>exact ⟨(wrap64 (x24_2 + 1)),(by first|rfl|(simp;done)|(simp [*];done)),H',⟨by have:=HJ2.out;have:=HK2.out;omega⟩,⟨by repeat (first|(with_reducible first|exact HB.out|apply below_alloc|apply pw_below_drewN|apply below_drew1)|exact HB.out)⟩⟩
           ·rw [if_neg c14] at H
            have c14b0:((rd l0 x24_2) == (rd l1 x24_2)) = false:=beq_eq_false_iff_ne.mpr c14
            have c14b1:((rd l0 x24_2) != (rd l1 x24_2)) = true:=bne_iff_ne.mpr c14
            by_cases c15:(rd l0 x24_2) ≥ 0
            ·rw [if_pos c15] at H
             have c15b0:decide (0 ≤ (rd l0 x24_2)) = true:=decide_eq_true c15
             clear c15
             by_cases c16:(rd l1 x24_2) ≥ 0
             ·rw [if_pos c16] at H
              have c16b0:decide (0 ≤ (rd l1 x24_2)) = true:=decide_eq_true c16
              clear c16
              obtain rfl:=Option.some.inj H
              have p217:0 ≤ (x24_2:Int):=of_decide_eq_true (by first|(with_reducible assumption)|assumption)
              have q217:x24_2 < (l0.length:Int):=of_decide_eq_true (by first|(with_reducible assumption)|assumption)
              obtain ⟨ad217,e217,hx217_0⟩:=Kd.at_int HR0.out x24_2 p217 q217
              cases e217
              replace hx217_0:=(HB.out.cell (World.block_lt_of_cell? w _ hx217_0)).trans hx217_0
              replace p217:=eq_true p217
              replace q217:=eq_true q217
              have p218:0 ≤ (x24_2:Int):=of_decide_eq_true (by first|(with_reducible assumption)|assumption)
              have q218:x24_2 < (l1.length:Int):=of_decide_eq_true (by first|(with_reducible assumption)|assumption)
              obtain ⟨ad218,e218,hx218_0⟩:=Kd.at_int HR1.out x24_2 p218 q218
              cases e218
              replace hx218_0:=(HB.out.cell (World.block_lt_of_cell? w _ hx218_0)).trans hx218_0
              replace p218:=eq_true p218
              replace q218:=eq_true q218
              have p219:0 ≤ (x24_2:Int):=of_decide_eq_true (by first|(with_reducible assumption)|assumption)
              have q219:x24_2 < (l0.length:Int):=of_decide_eq_true (by first|(with_reducible assumption)|assumption)
              obtain ⟨ad219,e219,hx219_0⟩:=Kd.at_int HR0.out x24_2 p219 q219
              obtain rfl:ad217 = ad219:=(by injection e219)
              replace hx219_0:=(HB.out.cell (World.block_lt_of_cell? w _ hx219_0)).trans hx219_0
              replace p219:=eq_true p219
              replace q219:=eq_true q219
              have p220:0 ≤ (x24_2:Int):=of_decide_eq_true (by first|(with_reducible assumption)|assumption)
              have q220:x24_2 < (l1.length:Int):=of_decide_eq_true (by first|(with_reducible assumption)|assumption)
              obtain ⟨ad220,e220,hx220_0⟩:=Kd.at_int HR1.out x24_2 p220 q220
              obtain rfl:ad218 = ad220:=(by injection e220)
              replace hx220_0:=(HB.out.cell (World.block_lt_of_cell? w _ hx220_0)).trans hx220_0
              replace p220:=eq_true p220
              replace q220:=eq_true q220
              have p221:0 ≤ (x24_2:Int):=of_decide_eq_true (by first|(with_reducible assumption)|assumption)
              have q221:x24_2 < (l0.length:Int):=of_decide_eq_true (by first|(with_reducible assumption)|assumption)
              obtain ⟨ad221,e221,hx221_0⟩:=Kd.at_int HR0.out x24_2 p221 q221
              obtain rfl:ad217 = ad221:=(by injection e221)
              replace hx221_0:=(HB.out.cell (World.block_lt_of_cell? w _ hx221_0)).trans hx221_0
              replace p221:=eq_true p221
              replace q221:=eq_true q221
              have p222:0 ≤ (x24_2:Int):=of_decide_eq_true (by first|(with_reducible assumption)|assumption)
              have q222:x24_2 < (l1.length:Int):=of_decide_eq_true (by first|(with_reducible assumption)|assumption)
              obtain ⟨ad222,e222,hx222_0⟩:=Kd.at_int HR1.out x24_2 p222 q222
              obtain rfl:ad218 = ad222:=(by injection e222)
              replace hx222_0:=(HB.out.cell (World.block_lt_of_cell? w _ hx222_0)).trans hx222_0
              replace p222:=eq_true p222
              replace q222:=eq_true q222
              go_wp2
              repeat (go_quiet (fail);try go_wp2)
              go_ret
              exact ⟨by first|rfl|(simp [errW_none,errW_some] <;> rfl)|(simp [*,errW_none,errW_some] <;> rfl),by repeat (first|(with_reducible first|exact HB.out|apply below_alloc|apply pw_below_drewN|apply below_drew1)|exact HB.out)⟩
             ·rw [if_neg c16] at H
              have c16b0:decide (0 ≤ (rd l1 x24_2)) = false:=decide_eq_false c16
              clear c16
              obtain rfl:=Option.some.inj H
              have p217:0 ≤ (x24_2:Int):=of_decide_eq_true (by first|(with_reducible assumption)|assumption)
              have q217:x24_2 < (l0.length:Int):=of_decide_eq_true (by first|(with_reducible assumption)|assumption)
              obtain ⟨ad217,e217,hx217_0⟩:=Kd.at_int HR0.out x24_2 p217 q217
              cases e217
              replace hx217_0:=(HB.out.cell (World.block_lt_of_cell? w _ hx217_0)).trans hx217_0
              replace p217:=eq_true p217
              replace q217:=eq_true q217
              have p218:0 ≤ (x24_2:Int):=of_decide_eq_true (by first|(with_reducible assumption)|assumption)
              have q218:x24_2 < (l1.length:Int):=of_decide_eq_true (by first|(with_reducible assumption)|assumption)
              obtain ⟨ad218,e218,hx218_0⟩:=Kd.at_int HR1.out x24_2 p218 q218
              cases e218
              replace hx218_0:=(HB.out.cell (World.block_lt_of_cell? w _ hx218_0)).trans hx218_0
              replace p218:=eq_true p218
              replace q218:=eq_true q218
              have p219:0 ≤ (x24_2:Int):=of_decide_eq_true (by first|(with_reducible assumption)|assumption)
              have q219:x24_2 < (l0.length:Int):=of_decide_eq_true (by first|(with_reducible assumption)|assumption)
              obtain ⟨ad219,e219,hx219_0⟩:=Kd.at_int HR0.out x24_2 p219 q219
              obtain rfl:ad217 = ad219:=(by injection e219)
              replace hx219_0:=(HB.out.cell (World.block_lt_of_cell? w _ hx219_0)).trans hx219_0
              replace p219:=eq_true p219
              replace q219:=eq_true q219
              have p220:0 ≤ (x24_2:Int):=of_decide_eq_true (by first|(with_reducible assumption)|assumption)
              have q220:x24_2 < (l1.length:Int):=of_decide_eq_true (by first|(with_reducible assumption)|assumption)
              obtain ⟨ad220,e220,hx220_0⟩:=Kd.at_int HR1.out x24_2 p220 q220
              obtain rfl:ad218 = ad220:=(by injection e220)
              replace hx220_0:=(HB.out.cell (World.block_lt_of_cell? w _ hx220_0)).trans hx220_0
              replace p220:=eq_true p220
              replace q220:=eq_true q220
              go_wp2
              repeat (go_quiet (fail);try go_wp2)
              go_ret
              exact ⟨by first|rfl|(simp [errW_none,errW_some] <;> rfl)|(simp [*,errW_none,errW_some] <;> rfl),by repeat (first|(with_reducible first|exact HB.out|apply below_alloc|apply pw_below_drewN|apply below_drew1)|exact HB.out)⟩
            ·rw [if_neg c15] at H
             have c15b0:decide (0 ≤ (rd l0 x24_2)) = false:=decide_eq_false c15
             clear c15
             obtain rfl:=Option.some.inj H
             have p217:0 ≤ (x24_2:Int):=of_decide_eq_true (by first|(with_reducible assumption)|assumption)
             have q217:x24_2 < (l0.length:Int):=of_decide_eq_true (by first|(with_reducible assumption)|assumption)
             obtain ⟨ad217,e217,hx217_0⟩:=Kd.at_int HR0.out x24_2 p217 q217
             cases e217
             replace hx217_0:=(HB.out.cell (World.block_lt_of_cell? w _ hx217_0)).trans hx217_0
             replace p217:=eq_true p217
             replace q217:=eq_true q217
             have p218:0 ≤ (x24_2:Int):=of_decide_eq_true (by first|(with_reducible assumption)|assumption)
             have q218:x24_2 < (l1.length:Int):=of_decide_eq_true (by first|(with_reducible assumption)|assumption)
             obtain ⟨ad218,e218,hx218_0⟩:=Kd.at_int HR1.out x24_2 p218 q218
             cases e218
             replace hx218_0:=(HB.out.cell (World.block_lt_of_cell? w _ hx218_0)).trans hx218_0
             replace p218:=eq_true p218
             replace q218:=eq_true q218
             have p219:0 ≤ (x24_2:Int):=of_decide_eq_true (by first|(with_reducible assumption)|assumption)
             have q219:x24_2 < (l0.length:Int):=of_decide_eq_true (by first|(with_reducible assumption)|assumption)
             obtain ⟨ad219,e219,hx219_0⟩:=Kd.at_int HR0.out x24_2 p219 q219
             obtain rfl:ad217 = ad219:=(by injection e219)
             replace hx219_0:=(HB.out.cell (World.block_lt_of_cell? w _ hx219_0)).trans hx219_0
             replace p219:=eq_true p219
             replace q219:=eq_true q219
             go_wp2
             repeat (go_quiet (fail);try go_wp2)
             go_ret
             exact ⟨by first|rfl|(simp [errW_none,errW_some] <;> rfl)|(simp [*,errW_none,errW_some] <;> rfl),by repeat (first|(with_reducible first|exact HB.out|apply below_alloc|apply pw_below_drewN|apply below_drew1)|exact HB.out)⟩
          ·rw [if_neg c13] at H
           exact absurd H (by simp)
         ·rw [if_neg c12] at H
          exact absurd H (by simp)
        ·rw [if_neg c11] at H
         exact absurd H (by simp)
       ·rw [if_neg c10] at H
        have c10b0:decide (x24_2 < (l0.length:Int)) = false:=decide_eq_false c10
        clear c10
        obtain rfl:=Option.some.inj H
        go_wp2
        repeat (go_quiet (fail);try go_wp2)
        go_ret
        exact ⟨by first|rfl|(simp [errW_none,errW_some] <;> rfl)|(simp [*,errW_none,errW_some] <;> rfl),by repeat (first|(with_reducible first|exact HB.out|apply below_alloc|apply pw_below_drewN|apply below_drew1)|exact HB.out)⟩

/-! ### spec_l1Replace: function 73 -/
def spec_l1Replace.f (k:Nat) (l0_0:List Int) (l1:List Int) (a2:Int) (l3:List Int):Option (List Int):=if 0 ≤ a2 then (if a2 ≤ (l1.length:Int) then ((spec_l1Own.f (l1.take (a2:Int).toNat)).bind fun t225=>(if t225.length + l3.length < 17592186044416 then ((some (t225 ++ l3:List Int)).bind fun y228=>((spec_l1End.f k l0_0 l1 a2).bind fun t231=>(if 0 ≤ t231 then (if t231 ≤ (l1.length:Int) then (if y228.length + (l1.drop (t231:Int).toNat).length < 17592186044416 then (some (y228 ++ (l1.drop (t231:Int).toNat))) else (none)) else (none)) else (none)))) else (none))) else (none)) else (none)
theorem spec_l1Replace.mono:∀ a0 a1 a2 a3 k,LeO (spec_l1Replace.f k a0 a1 a2 a3) (spec_l1Replace.f (k + 1) a0 a1 a2 a3):=by
 intro a0 a1 a2 a3 k
 unfold spec_l1Replace.f
 repeat' first
   | (with_reducible exact spec_l1End.mono _ _ _ _)
   | (with_reducible exact LeO.refl _)
   | (with_reducible exact LeO.none _)
   | (with_reducible refine LeO.ite ?_ ?_)
   | (with_reducible refine LeO.bind ?_ (fun _=>?_))
   | exact spec_l1End.mono _ _ _ _
   | exact LeO.none _
   | refine LeO.ite ?_ ?_
   | refine LeO.bind ?_ (fun _=>?_)
set_option maxHeartbeats 8000000 in
set_option maxRecDepth 100000 in
theorem spec_l1Replace.calls (k:Nat) (A0_0:Option Addr) (c0_0:Nat) (l0_0:List Int) (A1:Option Addr) (c1:Nat) (l1:List Int) (a2:Int) (A3:Option Addr) (c3:Nat) (l3:List Int) (r:List Int) (w:World) (hr0_0:Kd.C (Kd.int .i64) w A0_0 l0_0.length l0_0) (hc0_0:l0_0.length ≤ c0_0) (hr1:Kd.C (Kd.int .i64) w A1 l1.length l1) (hc1:l1.length ≤ c1) (hr3:Kd.C (Kd.int .i64) w A3 l3.length l3) (hc3:l3.length ≤ c3) (h:spec_l1Replace.f k l0_0 l1 a2 l3 = some r) :
  Calls Try.prog 73 #[.agg #[.slice A0_0 l0_0.length c0_0],.slice A1 l1.length c1,.int .i64 a2,.slice A3 l3.length c3] w fun e w'=>∃ v0_:Value,e = .returned (v0_) ∧ Kd.R (Kd.int .i64) 3 w' w.heap.size (fun _=>True) v0_ r ∧ Below w.heap.size w w':=by
 have hu30:=Try.underlying30
 have HR0_0:=Aside0.mk hr0_0
 have HC0_0:=Aside0.mk hc0_0
 clear hr0_0 hc0_0
 have HR1:=Aside0.mk hr1
 have HC1:=Aside0.mk hc1
 clear hr1 hc1
 have HR3:=Aside0.mk hr3
 have HC3:=Aside0.mk hc3
 clear hr3 hc3
 have HB:=Aside0.mk (Below.refl w.heap.size w)
 have H:(if 0 ≤ a2 then (if a2 ≤ (l1.length:Int) then ((spec_l1Own.f (l1.take (a2:Int).toNat)).bind fun t225=>(if t225.length + l3.length < 17592186044416 then ((some (t225 ++ l3:List Int)).bind fun y228=>((spec_l1End.f k l0_0 l1 a2).bind fun t231=>(if 0 ≤ t231 then (if t231 ≤ (l1.length:Int) then (if y228.length + (l1.drop (t231:Int).toNat).length < 17592186044416 then (some (y228 ++ (l1.drop (t231:Int).toNat))) else (none)) else (none)) else (none)))) else (none))) else (none)) else (none)) = some r:=h
 clear h
 by_cases c5:0 ≤ a2
 ·rw [if_pos c5] at H
  have c5b0:=eq_true c5
  have c5b1:decide (0 ≤ a2) = true:=decide_eq_true c5
  clear c5
  by_cases c6:a2 ≤ (l1.length:Int)
  ·rw [if_pos c6] at H
   have c6b0:=eq_true c6
   have c6b1:decide (a2 ≤ (l1.length:Int)) = true:=decide_eq_true c6
   clear c6
   replace H:=Option.bind_eq_some_iff.mp H
   obtain ⟨t225,A70,H⟩:=H
   replace H:(if t225.length + l3.length < 17592186044416 then ((some (t225 ++ l3:List Int)).bind fun y228=>((spec_l1End.f k l0_0 l1 a2).bind fun t231=>(if 0 ≤ t231 then (if t231 ≤ (l1.length:Int) then (if y228.length + (l1.drop (t231:Int).toNat).length < 17592186044416 then (some (y228 ++ (l1.drop (t231:Int).toNat))) else (none)) else (none)) else (none)))) else (none)) = some r:=H
   have A7:=Aside0.mk A70
   clear A70
   by_cases c8:t225.length + l3.length < 17592186044416
   ·rw [if_pos c8] at H
    have LMc8:=Aside0.mk c8
    clear c8
    obtain ⟨y228,hy228⟩:∃ y_:List Int,y_ = (t225 ++ l3):=⟨_,rfl⟩
    replace H:((spec_l1End.f k l0_0 l1 a2).bind fun t231=>(if 0 ≤ t231 then (if t231 ≤ (l1.length:Int) then (if y228.length + (l1.drop (t231:Int).toNat).length < 17592186044416 then (some (y228 ++ (l1.drop (t231:Int).toNat))) else (none)) else (none)) else (none))) = some r:=by first|(rw [hy228];with_reducible exact H)|(have H2_:=(Option.bind_some _ _).symm.trans H;rw [hy228];with_reducible exact H2_)|(have H2_:=(Option.bind_some _ _).symm.trans H;with_reducible exact H2_)|with_reducible exact H|(rw [hy228];exact H)|exact H
    have Ny228:=Aside0.mk hy228
    clear hy228
    replace H:=Option.bind_eq_some_iff.mp H
    obtain ⟨t231,A90,H⟩:=H
    replace H:(if 0 ≤ t231 then (if t231 ≤ (l1.length:Int) then (if y228.length + (l1.drop (t231:Int).toNat).length < 17592186044416 then (some (y228 ++ (l1.drop (t231:Int).toNat))) else (none)) else (none)) else (none)) = some r:=H
    have A9:=Aside0.mk A90
    clear A90
    by_cases c10:0 ≤ t231
    ·rw [if_pos c10] at H
     have c10b0:=eq_true c10
     have c10b1:decide (0 ≤ t231) = true:=decide_eq_true c10
     clear c10
     by_cases c11:t231 ≤ (l1.length:Int)
     ·rw [if_pos c11] at H
      have c11b0:=eq_true c11
      have c11b1:decide (t231 ≤ (l1.length:Int)) = true:=decide_eq_true c11
      clear c11
      by_cases c12:y228.length + (l1.drop (t231:Int).toNat).length < 17592186044416
      ·rw [if_pos c12] at H
       have LMc12:=Aside0.mk c12
       clear c12
       obtain ⟨y233,hy233⟩:∃ y_:List Int,y_ = (y228 ++ (l1.drop (t231:Int).toNat)):=⟨_,rfl⟩
       replace H:(some y233) = some r:=by first|(rw [hy233];with_reducible exact H)|(have H2_:=(Option.bind_some _ _).symm.trans H;rw [hy233];with_reducible exact H2_)|(have H2_:=(Option.bind_some _ _).symm.trans H;with_reducible exact H2_)|with_reducible exact H|(rw [hy233];exact H)|exact H
       have Ny233:=Aside0.mk hy233
       clear hy233
       obtain rfl:=Option.some.inj H
       go_enter Try.func73,Try.ntmps73
       go_wp2_with (first|((with_reducible refine gate_dst (N:=4) rfl ?_);refine box_event ?hg (N:=4) ?hd (cs:=#[.slice A0_0 l0_0.length c0_0]) (t:=30) ?hr ?_;(case hd=>rfl);(case hg=>rfl);(case hr=>first|(go_simp;done)|(go_simp;rfl));intro gb223 hg w13 hbox hb;have n0_:=Aside0.mk (below_step (by repeat (first|(with_reducible first|exact HB.out|apply below_alloc|apply pw_below_drewN|apply below_drew1)|exact HB.out)) hb);have n1_:=Aside0.mk (hbox);have n2_:=Aside0.mk ((by rw [hg];exact (below_size (by repeat (first|(with_reducible first|exact HB.out|apply below_alloc|apply pw_below_drewN|apply below_drew1)|exact HB.out))):w.heap.size ≤ gb223));have n3_:=Aside0.mk ((by rw [hg];exact (below_size (by repeat (first|(with_reducible first|exact HB.out|apply below_alloc|apply pw_below_drewN|apply below_drew1)|exact HB.out))):w.heap.size ≤ gb223));clear HB;have HB:=n0_;have BK223:=n1_;have GW223:=n2_;have GE223:=n3_;clear n0_ n1_ n2_ n3_;clear hb hbox hg;obtain ⟨i014,hi014,_,hsz14,_⟩:=info_parts info3;obtain ⟨hcut14,hA14,hC14⟩:=print_take_of (P:=Try.prog) (Value.int .i64) 0 22 3 .i64 Try.underlying22 hi014 hsz14 A1 c1 l1 a2 (of_decide_eq_true (by first|(with_reducible assumption)|assumption)) (of_decide_eq_true (by first|(with_reducible assumption)|assumption)) HC1.out;have HR224:=Aside0.mk (Kd.C_of_reads (h1:=fun _=>rfl) (hA14 _ (Kd.reads_of_C HR1.out)));have HC224:=Aside0.mk hC14;clear hA14 hC14 hi014 hsz14)|((with_reducible refine gate_callee (f:=82) rfl ?_);refine goesL_ (some 13) rfl rfl Try.func82 (by kernel_rfl) rfl #[.slice A1 (l1.take (a2:Int).toNat).length c1] rfl (by (try simp only [List.map_toArray,List.map_cons,List.map_nil]);first|done|(rw [show (l1.take (a2:Int).toNat).length = a2.toNat from (by rw [List.length_take];have h_:(a2:Int) ≤ (l1.length:Int):=of_decide_eq_true (by first|(with_reducible assumption)|assumption);omega)] <;> rfl)|rfl|(simp only [List.length_drop,List.length_take];rfl)) ?_;(with_reducible refine (spec_l1Own.calls _ _ (l1.take (a2:Int).toNat) t225 _ ?side1 ?side2 A7.out).mono ?_);(case side1=>repeat (first|exact (Kd.C_below HR224.out HB.out)|(with_reducible refine Kd.C_alloc ?_ _)|(with_reducible refine Kd.C_drewN ?_ _)|(with_reducible refine Kd.C_drew ?_)));(case side2=>exact HC224.out);rintro e w15 ⟨v226,rfl,ho0,hb⟩;refine ⟨_,rfl,?_⟩;have n0_:=Aside0.mk (Kd.R_lower ho0 (below_size (by repeat (first|(with_reducible first|exact HB.out|apply below_alloc|apply pw_below_drewN|apply below_drew1|refine below_set ?_ GE223.out)|exact HB.out))));have n1_:=Aside0.mk (blk_below (g:=gb223) (o:=.cells #[.slice A0_0 l0_0.length c0_0] 30 (0,0)) (by (with_reducible repeat (first|refine blk_drewN ?_ _|refine blk_drew ?_|refine blk_alloc ?_ _));exact BK223.out) hb);have n2_:=Aside0.mk (below_step (by repeat (first|(with_reducible first|exact HB.out|apply below_alloc|apply pw_below_drewN|apply below_drew1|refine below_set ?_ GE223.out)|exact HB.out)) hb);clear BK223;clear HB;have HO227:=n0_;have BK223:=n1_;have HB:=n2_;clear n0_ n1_ n2_;(try clear hb);(try clear hb2);(try clear hk);(try clear hi);(try clear ho0))|((with_reducible refine gate_builtin (b:=.append) (xs:=#[.tmp 13,.tmp 14]) rfl ?_);at_builtin;refine Kd.R_append_rows (Kd.int .i64) (w0:=w) w.heap.size rfl (.tmp 13) (.tmp 14) 22 3 (.int .i64 0) 8 rfl Try.underlying22 info3 rfl (by decide) (by first|decide|omega) v226 t225 l3 _ _ _ (fun _=>True) (fun _=>False) rfl rfl ?aO ?aR (fun _ _ h=>h) (fun _ h=>h.elim) ?aF ?aB ?aS ?aL ?_;(case aR=>repeat (first|exact (Kd.C_below HR3.out HB.out)|(with_reducible refine Kd.C_alloc ?_ _)|(with_reducible refine Kd.C_drewN ?_ _)|(with_reducible refine Kd.C_drew ?_)));(case aB=>exact (by repeat (first|(with_reducible first|exact HB.out|apply below_alloc|apply pw_below_drewN|apply below_drew1|refine below_set ?_ GE223.out)|exact HB.out)));(case aF=>exact (fun _ _=>trivial));(case aO=>exact (by (with_reducible repeat (first|apply Kd.R_alloc|apply Kd.R_drewN|apply Kd.R_drew));exact HO227.out));(case aS=>exact (below_size (by repeat (first|(with_reducible first|exact HB.out|apply below_alloc|apply pw_below_drewN|apply below_drew1|refine below_set ?_ GE223.out)|exact HB.out))));(case aL=>have:=LMc8.out;omega);intro v229 w16 ho hb hg hat;rw [← Ny228.out] at ho;have n0_:=Aside0.mk (blk_grown (g:=gb223) (o:=.cells #[.slice A0_0 l0_0.length c0_0] 30 (0,0)) (by (with_reducible repeat (first|refine blk_drewN ?_ _|refine blk_drew ?_|refine blk_alloc ?_ _));exact BK223.out) hg (Kd.R_ne HO227.out BK223.out (by decide)));have n1_:=Aside0.mk (hb);have n2_:=Aside0.mk (ho);clear BK223;clear HB;clear HO227;have BK223:=n0_;have HB:=n1_;have HO230:=n2_;clear n0_ n1_ n2_;clear ho hb hg hat;have hcz17_0:w16.cell? ⟨gb223,0,none⟩ = some (.slice A0_0 l0_0.length c0_0):=(blk_cell BK223.out 0).trans rfl;have hfz17_0:=blk_frozen BK223.out 0)|((with_reducible refine gate_callee (f:=102) rfl ?_);refine goesL_ (some 21) rfl rfl Try.func102 (by kernel_rfl) rfl #[.agg #[.slice A0_0 l0_0.length c0_0],.slice A1 l1.length c1,.int .i64 a2] rfl (by (try simp only [List.map_toArray,List.map_cons,List.map_nil]);first|done|rfl|(simp only [List.length_drop,List.length_take];rfl)) ?_;(with_reducible refine (spec_l1End.calls k _ _ l0_0 _ _ l1 a2 t231 _ ?side1 ?side2 ?side3 ?side4 A9.out).mono ?_);(case side1=>repeat (first|exact (Kd.C_below HR0_0.out HB.out)|(with_reducible refine Kd.C_alloc ?_ _)|(with_reducible refine Kd.C_drewN ?_ _)|(with_reducible refine Kd.C_drew ?_)));(case side2=>exact HC0_0.out);(case side3=>repeat (first|exact (Kd.C_below HR1.out HB.out)|(with_reducible refine Kd.C_alloc ?_ _)|(with_reducible refine Kd.C_drewN ?_ _)|(with_reducible refine Kd.C_drew ?_)));(case side4=>exact HC1.out);rintro e w18 ⟨rfl,hb⟩;refine ⟨_,rfl,?_⟩;have n0_:=Aside0.mk (Kd.R_below (by (with_reducible repeat (first|apply Kd.R_alloc|apply Kd.R_drewN|apply Kd.R_drew));exact HO230.out) hb);have n1_:=Aside0.mk (blk_below (g:=gb223) (o:=.cells #[.slice A0_0 l0_0.length c0_0] 30 (0,0)) (by (with_reducible repeat (first|refine blk_drewN ?_ _|refine blk_drew ?_|refine blk_alloc ?_ _));exact BK223.out) hb);have n2_:=Aside0.mk (below_step (by repeat (first|(with_reducible first|exact HB.out|apply below_alloc|apply pw_below_drewN|apply below_drew1|refine below_set ?_ GE223.out)|exact HB.out)) hb);clear HO230;clear BK223;clear HB;have HO230:=n0_;have BK223:=n1_;have HB:=n2_;clear n0_ n1_ n2_;(try clear hb);(try clear hb2);(try clear hk);(try clear hi);obtain ⟨i019,hi019,_,hsz19,_⟩:=info_parts info3;obtain ⟨A19,hcut19,hA19,hC19⟩:=print_drop_of (P:=Try.prog) (Value.int .i64) 0 22 3 .i64 Try.underlying22 hi019 hsz19 A1 c1 l1 t231 (of_decide_eq_true (by first|(with_reducible assumption)|assumption)) (of_decide_eq_true (by first|(with_reducible assumption)|assumption)) HC1.out;have HR232:=Aside0.mk (Kd.C_of_reads (h1:=fun _=>rfl) (hA19 _ (Kd.reads_of_C HR1.out)));have HC232:=Aside0.mk hC19;clear hA19 hC19 hi019 hsz19)|((with_reducible refine gate_builtin (b:=.append) (xs:=#[.tmp 16,.tmp 22]) rfl ?_);at_builtin;refine Kd.R_append_rows (Kd.int .i64) (w0:=w) w.heap.size rfl (.tmp 16) (.tmp 22) 22 3 (.int .i64 0) 8 rfl Try.underlying22 info3 rfl (by decide) (by first|decide|omega) v229 y228 (l1.drop (t231:Int).toNat) _ _ _ (fun _=>True) (fun _=>False) rfl rfl ?aO ?aR (fun _ _ h=>h) (fun _ h=>h.elim) ?aF ?aB ?aS ?aL ?_;(case aR=>first|(have q_:=Kd.C_below HR232.out HB.out;rw [show (l1.drop (t231:Int).toNat).length = (l1.length - t231.toNat) from List.length_drop] at q_;exact q_)|(rw [← show (l1.drop (t231:Int).toNat).length = (l1.length - t231.toNat) from List.length_drop];repeat (first|exact (Kd.C_below HR232.out HB.out)|(with_reducible refine Kd.C_alloc ?_ _)|(with_reducible refine Kd.C_drewN ?_ _)|(with_reducible refine Kd.C_drew ?_)))|(repeat (first|exact (Kd.C_below HR232.out HB.out)|(with_reducible refine Kd.C_alloc ?_ _)|(with_reducible refine Kd.C_drewN ?_ _)|(with_reducible refine Kd.C_drew ?_))));(case aB=>exact (by repeat (first|(with_reducible first|exact HB.out|apply below_alloc|apply pw_below_drewN|apply below_drew1|refine below_set ?_ GE223.out)|exact HB.out)));(case aF=>exact (fun _ _=>trivial));(case aO=>exact (by (with_reducible repeat (first|apply Kd.R_alloc|apply Kd.R_drewN|apply Kd.R_drew));exact HO230.out));(case aS=>exact (below_size (by repeat (first|(with_reducible first|exact HB.out|apply below_alloc|apply pw_below_drewN|apply below_drew1|refine below_set ?_ GE223.out)|exact HB.out))));(case aL=>have:=LMc12.out;have hlx_:=(show (l1.drop (t231:Int).toNat).length = (l1.length - t231.toNat) from List.length_drop);omega);intro v234 w20 ho hb hg hat;rw [← Ny233.out] at ho;have n0_:=Aside0.mk (blk_grown (g:=gb223) (o:=.cells #[.slice A0_0 l0_0.length c0_0] 30 (0,0)) (by (with_reducible repeat (first|refine blk_drewN ?_ _|refine blk_drew ?_|refine blk_alloc ?_ _));exact BK223.out) hg (Kd.R_ne HO230.out BK223.out (by decide)));have n1_:=Aside0.mk (hb);have n2_:=Aside0.mk (ho);clear BK223;clear HB;clear HO230;have BK223:=n0_;have HB:=n1_;have HO235:=n2_;clear n0_ n1_ n2_;clear ho hb hg hat))
       go_ret
       exact ⟨_,by first|rfl|(simp [errW_none,errW_some] <;> rfl)|(simp [*,errW_none,errW_some] <;> rfl),by (with_reducible repeat (first|apply Kd.R_alloc|apply Kd.R_drewN|apply Kd.R_drew));exact HO235.out,by repeat (first|(with_reducible first|exact HB.out|apply below_alloc|apply pw_below_drewN|apply below_drew1|refine below_set ?_ GE223.out)|exact HB.out)⟩
      ·rw [if_neg c12] at H
       exact absurd H (by simp)
     ·rw [if_neg c11] at H
      exact absurd H (by simp)
    ·rw [if_neg c10] at H
     exact absurd H (by simp)
   ·rw [if_neg c8] at H
    exact absurd H (by simp)
  ·rw [if_neg c6] at H
   exact absurd H (by simp)
 ·rw [if_neg c5] at H
  exact absurd H (by simp)

end Go.Proofs.Ytlgnanbnicmdaab.QFnExactIsNormal
