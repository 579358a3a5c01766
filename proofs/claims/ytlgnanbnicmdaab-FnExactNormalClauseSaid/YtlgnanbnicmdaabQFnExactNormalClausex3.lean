-- Written by this session's own program (wip/x/xprint.py, over the kit's printer); Lean checks it.
import Derived.Test.YtlgnanbnicmdaabQFnExactNormalClausex0
import Derived.Test.YtlgnanbnicmdaabQFnExactNormalClausex2
namespace Go.Proofs.Ytlgnanbnicmdaab.QFnExactNormalClause
open Go.RowKit Go.Proofs.YtlgnanbnicmdaabW.PrintWords Go.Proofs.YtlgnanbnicmdaabW.PrintLast Go.Proofs.YtlgnanbnicmdaabW.PrintMore
attribute [local go_sem] max2_int min2_int max_two min_two max_three min_three max_four min_four   -- for this text's walks alone
set_option linter.unusedVariables false
set_option linter.unusedSimpArgs false

/-! ### spec_l1End: function 102 -/
mutual
def spec_l1End.l0:Nat → List Int → Int → Int → List Int → Option (Int)
 | 0,_,_,_,_=>none
 | k + 1,x1,x2,x7,x159000=>if x7 > 0 then (if x2 ≥ (x1.length:Int) then (spec_l1End.j1 k x1 x2 x7 true x159000) else (if 0 ≤ x2 then (if x2 < (x1.length:Int) then ((spec_l1In.f (rd x1 x2) (-12) (wrap64 ((x159000.length:Int) - 1))).bind fun t160=>(spec_l1End.j1 k x1 x2 x7 (!t160) x159000)) else (none)) else (none))) else (some x2)
def spec_l1End.j1:Nat → List Int → Int → Int → Bool → List Int → Option (Int)
 | 0,_,_,_,_,_=>none
 | k + 1,x1,x2,x7,x25,x159000=>if x25 = true then (some (-1)) else (if 0 ≤ x2 then (if x2 < (x1.length:Int) then (if (rd x1 x2) ≥ 0 then (if 0 ≤ (rd x1 x2) then (if (rd x1 x2) < (x159000.length:Int) then (spec_l1End.l0 k x1 (wrap64 (x2 + 1)) (wrap64 ((wrap64 (x7 - 1)) + (rd x159000 (rd x1 x2)))) x159000) else (none)) else (none)) else (spec_l1End.l0 k x1 (wrap64 (x2 + 1)) (wrap64 (x7 - 1)) x159000)) else (none)) else (none))
end
def spec_l1End.f (k:Nat) (l0_0:List Int) (l1:List Int) (a2:Int):Option (Int):=spec_l1End.l0 k l1 a2 1 l0_0
theorem spec_l1End.mono_l:∀ k,(∀ y0 y1 y2 y3,LeO (spec_l1End.l0 k y0 y1 y2 y3) (spec_l1End.l0 (k + 1) y0 y1 y2 y3)) ∧ (∀ y0 y1 y2 y3 y4,LeO (spec_l1End.j1 k y0 y1 y2 y3 y4) (spec_l1End.j1 (k + 1) y0 y1 y2 y3 y4))
 | 0=>⟨fun _ _ _ _ r h=>by simp [spec_l1End.l0] at h,fun _ _ _ _ _ r h=>by simp [spec_l1End.j1] at h⟩
 | k + 1=>by
  obtain ⟨ih0,ih1⟩:=spec_l1End.mono_l k
  refine ⟨?_,?_⟩
  ·intro y0 y1 y2 y3
   unfold spec_l1End.l0
   exact mO
  ·intro y0 y1 y2 y3 y4
   unfold spec_l1End.j1
   exact mO
theorem spec_l1End.mono:∀ a0 a1 a2 k,LeO (spec_l1End.f k a0 a1 a2) (spec_l1End.f (k + 1) a0 a1 a2):=by
 intro a0 a1 a2 k
 obtain ⟨ih0,ih1⟩:=spec_l1End.mono_l k
 unfold spec_l1End.f
 exact mO
set_option maxHeartbeats 8000000 in
set_option maxRecDepth 100000 in
theorem spec_l1End.calls (k:Nat) (A0_0:Option Addr) (c0_0:Nat) (l0_0:List Int) (A1:Option Addr) (c1:Nat) (l1:List Int) (a2:Int) (r:Int) (w:World) (hr0_0:Kd.C (Kd.int .i64) w A0_0 l0_0.length l0_0) (hc0_0:l0_0.length ≤ c0_0) (hr1:Kd.C (Kd.int .i64) w A1 l1.length l1) (hc1:l1.length ≤ c1) (h:spec_l1End.f k l0_0 l1 a2 = some r) :
  Calls Try.prog 102 #[.agg #[.slice A0_0 l0_0.length c0_0],.slice A1 l1.length c1,.int .i64 a2] w fun e w'=>e = .returned (.int .i64 r) ∧ Below w.heap.size w w':=by
 have hu30:=Try.underlying30
 have HR0_0:=Aside0.mk hr0_0
 have HC0_0:=Aside0.mk hc0_0
 clear hr0_0 hc0_0
 have HR1:=Aside0.mk hr1
 have HC1:=Aside0.mk hc1
 clear hr1 hc1
 have HB:=Aside0.mk (Below.refl w.heap.size w)
 have H:(spec_l1End.l0 k l1 a2 1 l0_0) = some r:=h
 clear h
 have H':=Aside0.mk H
 clear H
 go_enter Try.func102,Try.ntmps102
 go_wp2_with (first|((with_reducible refine gate_dst (N:=3) rfl ?_);(try (refine gate_guard (by rfl) ?_;dsimp only));refine box_event ?hg (N:=3) ?hd (cs:=#[.slice A0_0 l0_0.length c0_0]) (t:=30) ?hr ?_;(case hd=>rfl);(case hg=>rfl);(case hr=>first|(go_simp;done)|(go_simp;rfl));intro gb158 hg w4 hbox hb;have BK158:=Aside0.mk (hbox);have GW158:=Aside0.mk ((hZ:w.heap.size ≤ gb158));have GE158:=Aside0.mk ((hZ:w.heap.size ≤ gb158));replace HB:=Aside0.mk (below_step bH hb);clear hb hbox hg))
 repeat (go_quiet (first|((with_reducible refine gate_dst (N:=3) rfl ?_);(try (refine gate_guard (by rfl) ?_;dsimp only));refine box_event ?hg (N:=3) ?hd (cs:=#[.slice A0_0 l0_0.length c0_0]) (t:=30) ?hr ?_;(case hd=>rfl);(case hg=>rfl);(case hr=>first|(go_simp;done)|(go_simp;rfl));intro gb158 hg w4 hbox hb;have BK158:=Aside0.mk (hbox);have GW158:=Aside0.mk ((hZ:w.heap.size ≤ gb158));have GE158:=Aside0.mk ((hZ:w.heap.size ≤ gb158));replace HB:=Aside0.mk (below_step bH hb);clear hb hbox hg));try go_wp2_with (first|((with_reducible refine gate_dst (N:=3) rfl ?_);(try (refine gate_guard (by rfl) ?_;dsimp only));refine box_event ?hg (N:=3) ?hd (cs:=#[.slice A0_0 l0_0.length c0_0]) (t:=30) ?hr ?_;(case hd=>rfl);(case hg=>rfl);(case hr=>first|(go_simp;done)|(go_simp;rfl));intro gb158 hg w4 hbox hb;have BK158:=Aside0.mk (hbox);have GW158:=Aside0.mk ((hZ:w.heap.size ≤ gb158));have GE158:=Aside0.mk ((hZ:w.heap.size ≤ gb158));replace HB:=Aside0.mk (below_step bH hb);clear hb hbox hg)))
 go_loopg [2,7] k (fun kq v2 v7 w'=>∃ (x2_1:Int) (x7_1:Int),v2 = .int .i64 x2_1 ∧ v7 = .int .i64 x7_1 ∧ Aside0 (spec_l1End.l0 kq l1 x2_1 x7_1 l0_0 = some r) ∧ Aside0 (kq ≤ k) ∧ Aside0 (w'.heap[gb158]? = some (.cells #[(.slice A0_0 l0_0.length c0_0)] 30 (0,0))) ∧ Aside0 (Below w.heap.size w w'))
 case atStart=>exact ⟨(a2),(1),Yb,Yb,H',⟨Nat.le_refl _⟩,⟨by (with_reducible repeat (first|refine blk_drewN ?_ _|refine blk_drew ?_|refine blk_alloc ?_ _));exact BK158.out⟩,⟨bH⟩⟩
 case round =>
  clear H'
  try clear c1
  try clear p2
  obtain ⟨x2_1,x7_1,rfl,rfl,HA,HK1,BK158,HB⟩:=hrel
  cases gk with
  | zero=>exact absurd HA.out (by simp [spec_l1End.l0])
  | succ k1 =>
   have H:=HA.out
   clear HA
   simp only [spec_l1End.l0] at H
   by_cases c5:x7_1 > 0
   ·rw [if_pos c5] at H
    have c5b0:decide (0 < x7_1) = true:=decide_eq_true c5
    clear c5
    have HC6:=Aside0.mk H
    clear H
    go_upto_region 3 with (fail)
    repeat (go_quiet (fail);go_upto_region 3 with (fail))
    go_cut [25] (fun v25 wc=>∃ (kq:Nat) (x25_5:Bool),v25 = .bool x25_5 ∧ Aside0 (spec_l1End.j1 kq l1 x2_1 x7_1 x25_5 l0_0 = some r) ∧ Aside0 (kq ≤ k1) ∧ Aside0 (wc.heap[gb158]? = some (.cells #[(.slice A0_0 l0_0.length c0_0)] 30 (0,0))) ∧ Aside0 (Below w.heap.size w wc))
    case first =>
     have H:=HC6.out
     clear HC6
     by_cases c7:x2_1 ≥ (l1.length:Int)
     ·rw [if_pos c7] at H
      have c7b0:decide ((l1.length:Int) ≤ x2_1) = true:=decide_eq_true c7
      clear c7
      (first|rw [c7b0]|(simp only [i64_w,i32_w];rw [c7b0])|skip)
      have H':=Aside0.mk H
      clear H
      go_wp2
      repeat (go_quiet (fail);try go_wp2)
      go_meet
      case rel=>exact ⟨_,(true),Yb,H',⟨by have:=HK1.out;first|omega|exact Nat.le_refl _⟩,⟨by (with_reducible repeat (first|refine blk_drewN ?_ _|refine blk_drew ?_|refine blk_alloc ?_ _));exact BK158.out⟩,⟨bH⟩⟩
     ·rw [if_neg c7] at H
      have c7b0:decide ((l1.length:Int) ≤ x2_1) = false:=decide_eq_false c7
      clear c7
      (first|rw [c7b0]|(simp only [i64_w,i32_w];rw [c7b0])|skip)
      by_cases c8:0 ≤ x2_1
      ·rw [if_pos c8] at H
       have c8b0:=decide_eq_true c8
       clear c8
       by_cases c9:x2_1 < (l1.length:Int)
       ·rw [if_pos c9] at H
        have c9b0:=decide_eq_true c9
        clear c9
        replace H:=Option.bind_eq_some_iff.mp H
        obtain ⟨t160,A100,H⟩:=H
        replace H:(spec_l1End.j1 k1 l1 x2_1 x7_1 (!t160) l0_0) = some r:=H
        have A10:=Aside0.mk A100
        clear A100
        have H':=Aside0.mk H
        clear H
        have p159:0 ≤ (x2_1:Int):=oD
        have q159:x2_1 < (l1.length:Int):=oD
        obtain ⟨ad159,e159,hx159_0⟩:=Kd.at_int HR1.out x2_1 p159 q159
        cases e159
        replace hx159_0:=(HB.out.cell (World.block_lt_of_cell? w _ hx159_0)).trans hx159_0
        replace p159:=eq_true p159
        replace q159:=eq_true q159
        have hcz11_0:wr.cell? ⟨gb158,0,none⟩ = some (.slice A0_0 l0_0.length c0_0):=(blk_cell BK158.out 0).trans rfl
        have hfz11_0:=blk_frozen BK158.out 0
        go_wp2_with (first|(go_at_call 94;(with_reducible refine (spec_l1In.calls (rd l1 x2_1) (-12) (wrap64 ((l0_0.length:Int) - 1)) t160 _ A10.out).mono ?_);rintro e w' ⟨rfl,⟨nd,rfl⟩⟩;(try first|exact ⟨rfl,_,World.drewN_drewN _ _ _⟩|exact ⟨rfl,_,Eq.trans (World.drewN_drewN _ _ _) (congrArg (World.drewN _) (Nat.add_assoc _ _ _))⟩)))
        repeat (go_quiet (first|(go_at_call 94;(with_reducible refine (spec_l1In.calls (rd l1 x2_1) (-12) (wrap64 ((l0_0.length:Int) - 1)) t160 _ A10.out).mono ?_);rintro e w' ⟨rfl,⟨nd,rfl⟩⟩;(try first|exact ⟨rfl,_,World.drewN_drewN _ _ _⟩|exact ⟨rfl,_,Eq.trans (World.drewN_drewN _ _ _) (congrArg (World.drewN _) (Nat.add_assoc _ _ _))⟩)));try go_wp2_with (first|(go_at_call 94;(with_reducible refine (spec_l1In.calls (rd l1 x2_1) (-12) (wrap64 ((l0_0.length:Int) - 1)) t160 _ A10.out).mono ?_);rintro e w' ⟨rfl,⟨nd,rfl⟩⟩;(try first|exact ⟨rfl,_,World.drewN_drewN _ _ _⟩|exact ⟨rfl,_,Eq.trans (World.drewN_drewN _ _ _) (congrArg (World.drewN _) (Nat.add_assoc _ _ _))⟩))))
        go_meet
        case rel=>exact ⟨_,(!t160),Yb,H',⟨by have:=HK1.out;first|omega|exact Nat.le_refl _⟩,⟨by (with_reducible repeat (first|refine blk_drewN ?_ _|refine blk_drew ?_|refine blk_alloc ?_ _));exact BK158.out⟩,⟨bH⟩⟩
       ·rw [if_neg c9] at H
        exact absurd H (by simp)
      ·rw [if_neg c8] at H
       exact absurd H (by simp)
    case rest =>
     clear HC6
     try clear c1
     try clear p1
     try clear q1
     try clear hx1
     try clear p2
     try clear c5
     try clear c5b0
     try clear p6
     try clear c7
     try clear c7b0
     try clear c8
     try clear c8b0
     try clear c9
     try clear c9b0
     try clear c10
     try clear hcz11_0
     try clear hfz11_0
     try clear hx159_0
     try clear p159
     try clear p2
     try clear q159
     obtain ⟨kq,x25_5,rfl,HA,HJ5,BK158,HB⟩:=hcut
     cases kq with
     | zero=>exact absurd HA.out (by simp [spec_l1End.j1])
     | succ kj5 =>
      have H:=HA.out
      clear HA
      simp only [spec_l1End.j1] at H
      by_cases c12:x25_5 = true
      ·subst c12
       have H1:(some (-1)) = some r:=by rw [if_pos rfl] at H;exact H
       clear H
       have H:=H1
       clear H1
       obtain rfl:=Option.some.inj H
       go_wp2
       repeat (go_quiet (fail);try go_wp2)
       go_ret
       exact ⟨by first|rfl|(simp [errW_none,errW_some] <;> rfl)|(simp [*,errW_none,errW_some] <;> rfl),bH⟩
      ·replace c12:=Bool.eq_false_iff.mpr c12
       subst c12
       have H1:(if 0 ≤ x2_1 then (if x2_1 < (l1.length:Int) then (if (rd l1 x2_1) ≥ 0 then (if 0 ≤ (rd l1 x2_1) then (if (rd l1 x2_1) < (l0_0.length:Int) then (spec_l1End.l0 kj5 l1 (wrap64 (x2_1 + 1)) (wrap64 ((wrap64 (x7_1 - 1)) + (rd l0_0 (rd l1 x2_1)))) l0_0) else (none)) else (none)) else (spec_l1End.l0 kj5 l1 (wrap64 (x2_1 + 1)) (wrap64 (x7_1 - 1)) l0_0)) else (none)) else (none)) = some r:=by rw [if_neg (show ¬ (false = true) by decide)] at H;exact H
       clear H
       have H:=H1
       clear H1
       by_cases c13:0 ≤ x2_1
       ·rw [if_pos c13] at H
        have c13b0:=decide_eq_true c13
        clear c13
        by_cases c14:x2_1 < (l1.length:Int)
        ·rw [if_pos c14] at H
         have c14b0:=decide_eq_true c14
         clear c14
         by_cases c15:(rd l1 x2_1) ≥ 0
         ·rw [if_pos c15] at H
          have c15b0:decide (0 ≤ (rd l1 x2_1)) = true:=decide_eq_true c15
          clear c15
          by_cases c16:0 ≤ (rd l1 x2_1)
          ·rw [if_pos c16] at H
           have c16b0:=decide_eq_true c16
           clear c16
           by_cases c17:(rd l1 x2_1) < (l0_0.length:Int)
           ·rw [if_pos c17] at H
            have c17b0:=decide_eq_true c17
            clear c17
            have H':=Aside0.mk H
            clear H
            have p161:0 ≤ (x2_1:Int):=oD
            have q161:x2_1 < (l1.length:Int):=oD
            obtain ⟨ad161,e161,hx161_0⟩:=Kd.at_int HR1.out x2_1 p161 q161
            cases e161
            replace hx161_0:=(HB.out.cell (World.block_lt_of_cell? w _ hx161_0)).trans hx161_0
            replace p161:=eq_true p161
            replace q161:=eq_true q161
            have hcz18_0:wc.cell? ⟨gb158,0,none⟩ = some (.slice A0_0 l0_0.length c0_0):=(blk_cell BK158.out 0).trans rfl
            have hfz18_0:=blk_frozen BK158.out 0
            have p162:0 ≤ (x2_1:Int):=oD
            have q162:x2_1 < (l1.length:Int):=oD
            obtain ⟨ad162,e162,hx162_0⟩:=Kd.at_int HR1.out x2_1 p162 q162
            obtain rfl:ad161 = ad162:=(by injection e162)
            replace hx162_0:=(HB.out.cell (World.block_lt_of_cell? w _ hx162_0)).trans hx162_0
            replace p162:=eq_true p162
            replace q162:=eq_true q162
            have p163:0 ≤ ((rd l1 x2_1):Int):=oD
            have q163:(rd l1 x2_1) < (l0_0.length:Int):=oD
            obtain ⟨ad163,e163,hx163_0⟩:=Kd.at_int HR0_0.out (rd l1 x2_1) p163 q163
            cases e163
            replace hx163_0:=(HB.out.cell (World.block_lt_of_cell? w _ hx163_0)).trans hx163_0
            replace p163:=eq_true p163
            replace q163:=eq_true q163
            go_wp2
            repeat (go_quiet (fail);try go_wp2)
            go_roundg kj5
            case measure=>have:=HK1.out;have:=HJ5.out;omega
            case rel=>exact ⟨(wrap64 (x2_1 + 1)),(wrap64 ((wrap64 (x7_1 - 1)) + (rd l0_0 (rd l1 x2_1)))),Yb,Yb,H',⟨by have:=HK1.out;have:=HJ5.out;omega⟩,⟨by (with_reducible repeat (first|refine blk_drewN ?_ _|refine blk_drew ?_|refine blk_alloc ?_ _));exact BK158.out⟩,⟨bH⟩⟩
           ·rw [if_neg c17] at H
            exact absurd H (by simp)
          ·rw [if_neg c16] at H
           exact absurd H (by simp)
         ·rw [if_neg c15] at H
          have c15b0:decide (0 ≤ (rd l1 x2_1)) = false:=decide_eq_false c15
          clear c15
          have H':=Aside0.mk H
          clear H
          have p161:0 ≤ (x2_1:Int):=oD
          have q161:x2_1 < (l1.length:Int):=oD
          obtain ⟨ad161,e161,hx161_0⟩:=Kd.at_int HR1.out x2_1 p161 q161
          cases e161
          replace hx161_0:=(HB.out.cell (World.block_lt_of_cell? w _ hx161_0)).trans hx161_0
          replace p161:=eq_true p161
          replace q161:=eq_true q161
          go_wp2
          repeat (go_quiet (fail);try go_wp2)
          go_roundg kj5
          case measure=>have:=HK1.out;have:=HJ5.out;omega
          case rel=>exact ⟨(wrap64 (x2_1 + 1)),(wrap64 (x7_1 - 1)),Yb,Yb,H',⟨by have:=HK1.out;have:=HJ5.out;omega⟩,⟨by (with_reducible repeat (first|refine blk_drewN ?_ _|refine blk_drew ?_|refine blk_alloc ?_ _));exact BK158.out⟩,⟨bH⟩⟩
        ·rw [if_neg c14] at H
         exact absurd H (by simp)
       ·rw [if_neg c13] at H
        exact absurd H (by simp)
   ·rw [if_neg c5] at H
    have c5b0:decide (0 < x7_1) = false:=decide_eq_false c5
    clear c5
    obtain rfl:=Option.some.inj H
    go_wp2
    repeat (go_quiet (fail);try go_wp2)
    go_ret
    exact ⟨by first|rfl|(simp [errW_none,errW_some] <;> rfl)|(simp [*,errW_none,errW_some] <;> rfl),bH⟩

/-! ### spec_l1Term: function 68 -/
def spec_l1Term.f (k:Nat) (l0_0:List Int) (l1:List Int):Option (Bool):=(spec_l1In.f (l1.length:Int) 1 40).bind fun t165=>(if t165 = true then ((spec_l1End.f k l0_0 l1 0).bind fun t166=>(some (t166 == (l1.length:Int)))) else (some false))
theorem spec_l1Term.mono:∀ a0 a1 k,LeO (spec_l1Term.f k a0 a1) (spec_l1Term.f (k + 1) a0 a1):=by
 intro a0 a1 k
 unfold spec_l1Term.f
 have m0:=@spec_l1End.mono
 exact mO
set_option maxHeartbeats 8000000 in
set_option maxRecDepth 100000 in
theorem spec_l1Term.calls (k:Nat) (A0_0:Option Addr) (c0_0:Nat) (l0_0:List Int) (A1:Option Addr) (c1:Nat) (l1:List Int) (r:Bool) (w:World) (hr0_0:Kd.C (Kd.int .i64) w A0_0 l0_0.length l0_0) (hc0_0:l0_0.length ≤ c0_0) (hr1:Kd.C (Kd.int .i64) w A1 l1.length l1) (hc1:l1.length ≤ c1) (h:spec_l1Term.f k l0_0 l1 = some r) :
  Calls Try.prog 68 #[.agg #[.slice A0_0 l0_0.length c0_0],.slice A1 l1.length c1] w fun e w'=>e = .returned (.bool r) ∧ Below w.heap.size w w':=by
 have hu30:=Try.underlying30
 have HR0_0:=Aside0.mk hr0_0
 have HC0_0:=Aside0.mk hc0_0
 clear hr0_0 hc0_0
 have HR1:=Aside0.mk hr1
 have HC1:=Aside0.mk hc1
 clear hr1 hc1
 have HB:=Aside0.mk (Below.refl w.heap.size w)
 have H:((spec_l1In.f (l1.length:Int) 1 40).bind fun t165=>(if t165 = true then ((spec_l1End.f k l0_0 l1 0).bind fun t166=>(some (t166 == (l1.length:Int)))) else (some false))) = some r:=h
 clear h
 replace H:=Option.bind_eq_some_iff.mp H
 obtain ⟨t165,A30,H⟩:=H
 replace H:(if t165 = true then ((spec_l1End.f k l0_0 l1 0).bind fun t166=>(some (t166 == (l1.length:Int)))) else (some false)) = some r:=H
 have A3:=Aside0.mk A30
 clear A30
 by_cases c4:t165 = true
 ·subst c4
  have H1:((spec_l1End.f k l0_0 l1 0).bind fun t166=>(some (t166 == (l1.length:Int)))) = some r:=by rw [if_pos rfl] at H;exact H
  clear H
  have H:=H1
  clear H1
  replace H:=Option.bind_eq_some_iff.mp H
  obtain ⟨t166,A50,H⟩:=H
  replace H:(some (t166 == (l1.length:Int))) = some r:=H
  have A5:=Aside0.mk A50
  clear A50
  obtain rfl:=Option.some.inj H
  go_enter Try.func68,Try.ntmps68
  go_wp2_with (first|((with_reducible refine gate_dst (N:=2) rfl ?_);(try (refine gate_guard (by rfl) ?_;dsimp only));refine box_event ?hg (N:=2) ?hd (cs:=#[.slice A0_0 l0_0.length c0_0]) (t:=30) ?hr ?_;(case hd=>rfl);(case hg=>rfl);(case hr=>first|(go_simp;done)|(go_simp;rfl));intro gb164 hg w6 hbox hb;have BK164:=Aside0.mk (hbox);have GW164:=Aside0.mk ((hZ:w.heap.size ≤ gb164));have GE164:=Aside0.mk ((hZ:w.heap.size ≤ gb164));replace HB:=Aside0.mk (below_step bH hb);clear hb hbox hg)|((with_reducible refine gate_callee (f:=94) rfl ?_);refine goesL_ (some 7) rfl rfl Try.func94 (by kernel_rfl) rfl #[.int .i64 (l1.length:Int),.int .i64 1,.int .i64 40] rfl Ya ?_;(with_reducible refine (spec_l1In.calls (l1.length:Int) 1 40 true _ A3.out).mono ?_);rintro e w' ⟨rfl,⟨nd,rfl⟩⟩;refine ⟨_,rfl,?_⟩;have hcz7_0:w6.cell? ⟨gb164,0,none⟩ = some (.slice A0_0 l0_0.length c0_0):=(blk_cell BK164.out 0).trans rfl;have hfz7_0:=blk_frozen BK164.out 0)|(go_at_call 102;(with_reducible refine (spec_l1End.calls k _ _ l0_0 _ _ l1 0 t166 _ ?side1 ?side2 ?side3 ?side4 A5.out).mono ?_);(case side1=>repeat (first|exact (Kd.C_below HR0_0.out bH)|(with_reducible refine Kd.C_alloc ?_ _)|(with_reducible refine Kd.C_drewN ?_ _)|(with_reducible refine Kd.C_drew ?_)));(case side2=>exact HC0_0.out);(case side3=>repeat (first|exact (Kd.C_below HR1.out bH)|(with_reducible refine Kd.C_alloc ?_ _)|(with_reducible refine Kd.C_drewN ?_ _)|(with_reducible refine Kd.C_drew ?_)));(case side4=>exact HC1.out);rintro e w8 ⟨rfl,hb⟩;replace BK164:=Aside0.mk (blk_below (bB BK164) hb);replace HB:=Aside0.mk (below_step bH hb);(try clear hb);(try clear hb2);(try clear hk);(try clear hi)))
  go_ret
  exact ⟨by first|rfl|(simp [errW_none,errW_some] <;> rfl)|(simp [*,errW_none,errW_some] <;> rfl),bH⟩
 ·replace c4:=Bool.eq_false_iff.mpr c4
  subst c4
  have H1:(some false) = some r:=by rw [if_neg (show ¬ (false = true) by decide)] at H;exact H
  clear H
  have H:=H1
  clear H1
  obtain rfl:=Option.some.inj H
  go_enter Try.func68,Try.ntmps68
  go_wp2_with (first|((with_reducible refine gate_dst (N:=2) rfl ?_);(try (refine gate_guard (by rfl) ?_;dsimp only));refine box_event ?hg (N:=2) ?hd (cs:=#[.slice A0_0 l0_0.length c0_0]) (t:=30) ?hr ?_;(case hd=>rfl);(case hg=>rfl);(case hr=>first|(go_simp;done)|(go_simp;rfl));intro gb164 hg w9 hbox hb;have BK164:=Aside0.mk (hbox);have GW164:=Aside0.mk ((hZ:w.heap.size ≤ gb164));have GE164:=Aside0.mk ((hZ:w.heap.size ≤ gb164));replace HB:=Aside0.mk (below_step bH hb);clear hb hbox hg)|((with_reducible refine gate_callee (f:=94) rfl ?_);refine goesL_ (some 7) rfl rfl Try.func94 (by kernel_rfl) rfl #[.int .i64 (l1.length:Int),.int .i64 1,.int .i64 40] rfl Ya ?_;(with_reducible refine (spec_l1In.calls (l1.length:Int) 1 40 false _ A3.out).mono ?_);rintro e w' ⟨rfl,⟨nd,rfl⟩⟩;refine ⟨_,rfl,?_⟩))
  go_ret
  exact ⟨by first|rfl|(simp [errW_none,errW_some] <;> rfl)|(simp [*,errW_none,errW_some] <;> rfl),bH⟩

/-! ### spec_l4Lit: function 69 -/
def spec_l4Lit.f (k:Nat) (l0_0:List Int) (a1_0:Bool) (l1_1:List Int) (l1_2:List Int):Option (Bool):=(spec_l1Term.f k l0_0 l1_1).bind fun t169=>(if t169 = true then ((spec_l1Term.f k l0_0 l1_2).bind fun t170=>(some t170)) else (some false))
theorem spec_l4Lit.mono:∀ a0 a1 a2 a3 k,LeO (spec_l4Lit.f k a0 a1 a2 a3) (spec_l4Lit.f (k + 1) a0 a1 a2 a3):=by
 intro a0 a1 a2 a3 k
 unfold spec_l4Lit.f
 have m0:=@spec_l1Term.mono
 exact mO
set_option maxHeartbeats 8000000 in
set_option maxRecDepth 100000 in
theorem spec_l4Lit.calls (k:Nat) (A0_0:Option Addr) (c0_0:Nat) (l0_0:List Int) (a1_0:Bool) (A1_1:Option Addr) (c1_1:Nat) (l1_1:List Int) (A1_2:Option Addr) (c1_2:Nat) (l1_2:List Int) (r:Bool) (w:World) (hr0_0:Kd.C (Kd.int .i64) w A0_0 l0_0.length l0_0) (hc0_0:l0_0.length ≤ c0_0) (hr1_1:Kd.C (Kd.int .i64) w A1_1 l1_1.length l1_1) (hc1_1:l1_1.length ≤ c1_1) (hr1_2:Kd.C (Kd.int .i64) w A1_2 l1_2.length l1_2) (hc1_2:l1_2.length ≤ c1_2) (h:spec_l4Lit.f k l0_0 a1_0 l1_1 l1_2 = some r) :
  Calls Try.prog 69 #[.agg #[.slice A0_0 l0_0.length c0_0],.agg #[.bool a1_0,.slice A1_1 l1_1.length c1_1,.slice A1_2 l1_2.length c1_2]] w fun e w'=>e = .returned (.bool r) ∧ Below w.heap.size w w':=by
 have hu30:=Try.underlying30
 have hu65:=Try.underlying65
 have HR0_0:=Aside0.mk hr0_0
 have HC0_0:=Aside0.mk hc0_0
 clear hr0_0 hc0_0
 have HR1_1:=Aside0.mk hr1_1
 have HC1_1:=Aside0.mk hc1_1
 clear hr1_1 hc1_1
 have HR1_2:=Aside0.mk hr1_2
 have HC1_2:=Aside0.mk hc1_2
 clear hr1_2 hc1_2
 have HB:=Aside0.mk (Below.refl w.heap.size w)
 have H:((spec_l1Term.f k l0_0 l1_1).bind fun t169=>(if t169 = true then ((spec_l1Term.f k l0_0 l1_2).bind fun t170=>(some t170)) else (some false))) = some r:=h
 clear h
 replace H:=Option.bind_eq_some_iff.mp H
 obtain ⟨t169,A30,H⟩:=H
 replace H:(if t169 = true then ((spec_l1Term.f k l0_0 l1_2).bind fun t170=>(some t170)) else (some false)) = some r:=H
 have A3:=Aside0.mk A30
 clear A30
 by_cases c4:t169 = true
 ·subst c4
  have H1:((spec_l1Term.f k l0_0 l1_2).bind fun t170=>(some t170)) = some r:=by rw [if_pos rfl] at H;exact H
  clear H
  have H:=H1
  clear H1
  replace H:=Option.bind_eq_some_iff.mp H
  obtain ⟨t170,A50,H⟩:=H
  replace H:(some t170) = some r:=H
  have A5:=Aside0.mk A50
  clear A50
  obtain rfl:=Option.some.inj H
  go_enter Try.func69,Try.ntmps69
  go_wp2_with (first|((with_reducible refine gate_dst (N:=2) rfl ?_);refine box_event ?hg (N:=2) ?hd (cs:=#[.slice A0_0 l0_0.length c0_0]) (t:=30) ?hr ?_;(case hd=>rfl);(case hg=>rfl);(case hr=>first|(go_simp;done)|(go_simp;rfl));intro gb167 hg w6 hbox hb;have BK167:=Aside0.mk (hbox);have GW167:=Aside0.mk ((hZ:w.heap.size ≤ gb167));have GE167:=Aside0.mk ((hZ:w.heap.size ≤ gb167));replace HB:=Aside0.mk (below_step bH hb);clear hb hbox hg)|((with_reducible refine gate_dst (N:=3) rfl ?_);refine box_event ?hg (N:=3) ?hd (cs:=#[.bool a1_0,.slice A1_1 l1_1.length c1_1,.slice A1_2 l1_2.length c1_2]) (t:=65) ?hr ?_;(case hd=>rfl);(case hg=>rfl);(case hr=>first|(go_simp;done)|(go_simp;rfl));intro gb168 hg w7 hbox hb;have BK168:=Aside0.mk (hbox);have GW168:=Aside0.mk ((hZ:w.heap.size ≤ gb168));have GE168:=Aside0.mk ((hZ:w.heap.size ≤ gb168));replace HB:=Aside0.mk (below_step bH hb);have NB167_168:=Aside0.mk ((nL BK167:gb167 ≠ gb168));have NB168_167:=Aside0.mk ((nG BK167:gb168 ≠ gb167));replace BK167:=Aside0.mk (blk_below (bB BK167) hb);clear hb hbox hg;have hnb8:=NB167_168.out;have hnc8:=NB168_167.out;have hcz9_0:w7.cell? ⟨gb167,0,none⟩ = some (.slice A0_0 l0_0.length c0_0):=(blk_cell BK167.out 0).trans rfl;have hfz9_0:=blk_frozen BK167.out 0;have hcz10_0:w7.cell? ⟨gb168,0,none⟩ = some (.bool a1_0):=(blk_cell BK168.out 0).trans rfl;have hcz10_1:w7.cell? ⟨gb168,1,none⟩ = some (.slice A1_1 l1_1.length c1_1):=(blk_cell BK168.out 1).trans rfl;have hcz10_2:w7.cell? ⟨gb168,2,none⟩ = some (.slice A1_2 l1_2.length c1_2):=(blk_cell BK168.out 2).trans rfl;have hfz10_0:=blk_frozen BK168.out 0;have hfz10_1:=blk_frozen BK168.out 1;have hfz10_2:=blk_frozen BK168.out 2)|((with_reducible refine gate_callee (f:=68) rfl ?_);refine goesL_ (some 8) rfl rfl Try.func68 (by kernel_rfl) rfl #[.agg #[.slice A0_0 l0_0.length c0_0],.slice A1_1 l1_1.length c1_1] rfl Ya ?_;(with_reducible refine (spec_l1Term.calls k _ _ l0_0 _ _ l1_1 true _ ?side1 ?side2 ?side3 ?side4 A3.out).mono ?_);(case side1=>exact sC HR0_0);(case side2=>exact HC0_0.out);(case side3=>exact sC HR1_1);(case side4=>exact HC1_1.out);rintro e w11 ⟨rfl,hb⟩;refine ⟨_,rfl,?_⟩;replace BK167:=Aside0.mk (blk_below (bB BK167) hb);replace BK168:=Aside0.mk (blk_below (bB BK168) hb);replace HB:=Aside0.mk (below_step bH hb);(try clear hb);(try clear hb2);(try clear hk);(try clear hi);have hcz12_0:w11.cell? ⟨gb167,0,none⟩ = some (.slice A0_0 l0_0.length c0_0):=(blk_cell BK167.out 0).trans rfl;have hfz12_0:=blk_frozen BK167.out 0;have hcz13_0:w11.cell? ⟨gb168,0,none⟩ = some (.bool a1_0):=(blk_cell BK168.out 0).trans rfl;have hcz13_1:w11.cell? ⟨gb168,1,none⟩ = some (.slice A1_1 l1_1.length c1_1):=(blk_cell BK168.out 1).trans rfl;have hcz13_2:w11.cell? ⟨gb168,2,none⟩ = some (.slice A1_2 l1_2.length c1_2):=(blk_cell BK168.out 2).trans rfl;have hfz13_0:=blk_frozen BK168.out 0;have hfz13_1:=blk_frozen BK168.out 1;have hfz13_2:=blk_frozen BK168.out 2)|(go_at_call 68;(with_reducible refine (spec_l1Term.calls k _ _ l0_0 _ _ l1_2 t170 _ ?side1 ?side2 ?side3 ?side4 A5.out).mono ?_);(case side1=>exact sC HR0_0);(case side2=>exact HC0_0.out);(case side3=>exact sC HR1_2);(case side4=>exact HC1_2.out);rintro e w14 ⟨rfl,hb⟩;replace BK167:=Aside0.mk (blk_below (bB BK167) hb);replace BK168:=Aside0.mk (blk_below (bB BK168) hb);replace HB:=Aside0.mk (below_step bH hb);(try clear hb);(try clear hb2);(try clear hk);(try clear hi)))
  go_ret
  exact ⟨by first|rfl|(simp [errW_none,errW_some] <;> rfl)|(simp [*,errW_none,errW_some] <;> rfl),bH⟩
 ·replace c4:=Bool.eq_false_iff.mpr c4
  subst c4
  have H1:(some false) = some r:=by rw [if_neg (show ¬ (false = true) by decide)] at H;exact H
  clear H
  have H:=H1
  clear H1
  obtain rfl:=Option.some.inj H
  go_enter Try.func69,Try.ntmps69
  go_wp2_with (first|((with_reducible refine gate_dst (N:=2) rfl ?_);refine box_event ?hg (N:=2) ?hd (cs:=#[.slice A0_0 l0_0.length c0_0]) (t:=30) ?hr ?_;(case hd=>rfl);(case hg=>rfl);(case hr=>first|(go_simp;done)|(go_simp;rfl));intro gb167 hg w15 hbox hb;have BK167:=Aside0.mk (hbox);have GW167:=Aside0.mk ((hZ:w.heap.size ≤ gb167));have GE167:=Aside0.mk ((hZ:w.heap.size ≤ gb167));replace HB:=Aside0.mk (below_step bH hb);clear hb hbox hg)|((with_reducible refine gate_dst (N:=3) rfl ?_);refine box_event ?hg (N:=3) ?hd (cs:=#[.bool a1_0,.slice A1_1 l1_1.length c1_1,.slice A1_2 l1_2.length c1_2]) (t:=65) ?hr ?_;(case hd=>rfl);(case hg=>rfl);(case hr=>first|(go_simp;done)|(go_simp;rfl));intro gb168 hg w16 hbox hb;have BK168:=Aside0.mk (hbox);have GW168:=Aside0.mk ((hZ:w.heap.size ≤ gb168));have GE168:=Aside0.mk ((hZ:w.heap.size ≤ gb168));replace HB:=Aside0.mk (below_step bH hb);have NB167_168:=Aside0.mk ((nL BK167:gb167 ≠ gb168));have NB168_167:=Aside0.mk ((nG BK167:gb168 ≠ gb167));replace BK167:=Aside0.mk (blk_below (bB BK167) hb);clear hb hbox hg;have hnb17:=NB167_168.out;have hnc17:=NB168_167.out;have hcz18_0:w16.cell? ⟨gb167,0,none⟩ = some (.slice A0_0 l0_0.length c0_0):=(blk_cell BK167.out 0).trans rfl;have hfz18_0:=blk_frozen BK167.out 0;have hcz19_0:w16.cell? ⟨gb168,0,none⟩ = some (.bool a1_0):=(blk_cell BK168.out 0).trans rfl;have hcz19_1:w16.cell? ⟨gb168,1,none⟩ = some (.slice A1_1 l1_1.length c1_1):=(blk_cell BK168.out 1).trans rfl;have hcz19_2:w16.cell? ⟨gb168,2,none⟩ = some (.slice A1_2 l1_2.length c1_2):=(blk_cell BK168.out 2).trans rfl;have hfz19_0:=blk_frozen BK168.out 0;have hfz19_1:=blk_frozen BK168.out 1;have hfz19_2:=blk_frozen BK168.out 2)|((with_reducible refine gate_callee (f:=68) rfl ?_);refine goesL_ (some 8) rfl rfl Try.func68 (by kernel_rfl) rfl #[.agg #[.slice A0_0 l0_0.length c0_0],.slice A1_1 l1_1.length c1_1] rfl Ya ?_;(with_reducible refine (spec_l1Term.calls k _ _ l0_0 _ _ l1_1 false _ ?side1 ?side2 ?side3 ?side4 A3.out).mono ?_);(case side1=>exact sC HR0_0);(case side2=>exact HC0_0.out);(case side3=>exact sC HR1_1);(case side4=>exact HC1_1.out);rintro e w20 ⟨rfl,hb⟩;refine ⟨_,rfl,?_⟩;replace BK167:=Aside0.mk (blk_below (bB BK167) hb);replace BK168:=Aside0.mk (blk_below (bB BK168) hb);replace HB:=Aside0.mk (below_step bH hb);(try clear hb);(try clear hb2);(try clear hk);(try clear hi)))
  go_ret
  exact ⟨by first|rfl|(simp [errW_none,errW_some] <;> rfl)|(simp [*,errW_none,errW_some] <;> rfl),bH⟩

/-! ### spec_l7Units: function 41 -/
def spec_l7Units.l0:Nat → List (S65) → List (S65) → Int → Int → List Int → Option (Bool)
 | 0,_,_,_,_,_=>none
 | k + 1,x1,x7,x8,x9,x172000=>if x9 < x8 then (if 0 ≤ x9 then (if x9 < (x7.length:Int) then ((spec_l4Lit.f k x172000 ((rd_T65 x7 x9).f0) ((rd_T65 x7 x9).f1) ((rd_T65 x7 x9).f2)).bind fun t174=>(if t174 = true then (if ((rd_T65 x7 x9).f0 = true) then (spec_l7Units.l0 k x1 x7 x8 (wrap64 (x9 + 1)) x172000) else (some false)) else (some false))) else (none)) else (none)) else ((spec_GoodSign.f k x172000).bind fun t175=>(if t175 = true then (some (decide ((x1.length:Int) ≤ 10))) else (some false)))
def spec_l7Units.f (k:Nat) (l0_0:List Int) (l1:List (S65)):Option (Bool):=spec_l7Units.l0 k l1 l1 (l1.length:Int) 0 l0_0
theorem spec_l7Units.mono_l:∀ k,(∀ y0 y1 y2 y3 y4,LeO (spec_l7Units.l0 k y0 y1 y2 y3 y4) (spec_l7Units.l0 (k + 1) y0 y1 y2 y3 y4))
 | 0=>fun _ _ _ _ _ r h=>by simp [spec_l7Units.l0] at h
 | k + 1=>by
  have ih0:=spec_l7Units.mono_l k
  ·intro y0 y1 y2 y3 y4
   unfold spec_l7Units.l0
   have m0:=@spec_GoodSign.mono
   have m1:=@spec_l4Lit.mono
   exact mO
theorem spec_l7Units.mono:∀ a0 a1 k,LeO (spec_l7Units.f k a0 a1) (spec_l7Units.f (k + 1) a0 a1):=by
 intro a0 a1 k
 have ih0:=spec_l7Units.mono_l k
 unfold spec_l7Units.f
 have m0:=@spec_GoodSign.mono
 have m1:=@spec_l4Lit.mono
 exact mO
set_option maxHeartbeats 8000000 in
set_option maxRecDepth 100000 in
theorem spec_l7Units.calls (k:Nat) (A0_0:Option Addr) (c0_0:Nat) (l0_0:List Int) (A1:Option Addr) (c1:Nat) (l1:List (S65)) (r:Bool) (w:World) (hr0_0:Kd.C (Kd.int .i64) w A0_0 l0_0.length l0_0) (hc0_0:l0_0.length ≤ c0_0) (hr1:Kd.C k65 w A1 l1.length l1) (hc1:l1.length ≤ c1) (h:spec_l7Units.f k l0_0 l1 = some r) :
  Calls Try.prog 41 #[.agg #[.slice A0_0 l0_0.length c0_0],.slice A1 l1.length c1] w fun e w'=>e = .returned (.bool r) ∧ Below w.heap.size w w':=by
 have hu30:=Try.underlying30
 have hu65:=Try.underlying65
 have HR0_0:=Aside0.mk hr0_0
 have HC0_0:=Aside0.mk hc0_0
 clear hr0_0 hc0_0
 have HR1:=Aside0.mk hr1
 have HC1:=Aside0.mk hc1
 clear hr1 hc1
 have HB:=Aside0.mk (Below.refl w.heap.size w)
 have H:(spec_l7Units.l0 k l1 l1 (l1.length:Int) 0 l0_0) = some r:=h
 clear h
 have H':=Aside0.mk H
 clear H
 go_enter Try.func41,Try.ntmps41
 go_wp2_with (first|((with_reducible refine gate_dst (N:=2) rfl ?_);(try (refine gate_guard (by rfl) ?_;dsimp only));refine box_event ?hg (N:=2) ?hd (cs:=#[.slice A0_0 l0_0.length c0_0]) (t:=30) ?hr ?_;(case hd=>rfl);(case hg=>rfl);(case hr=>first|(go_simp;done)|(go_simp;rfl));intro gb171 hg w3 hbox hb;have BK171:=Aside0.mk (hbox);have GW171:=Aside0.mk ((hZ:w.heap.size ≤ gb171));have GE171:=Aside0.mk ((hZ:w.heap.size ≤ gb171));replace HB:=Aside0.mk (below_step bH hb);clear hb hbox hg))
 go_loopg [9] k (fun kq v9 w'=>∃ (x9_1:Int),v9 = .int .i64 x9_1 ∧ Aside0 (spec_l7Units.l0 kq l1 l1 (l1.length:Int) x9_1 l0_0 = some r) ∧ Aside0 (kq ≤ k) ∧ Aside0 (w'.heap[gb171]? = some (.cells #[(.slice A0_0 l0_0.length c0_0)] 30 (0,0))) ∧ Aside0 (Below w.heap.size w w'))
 case atStart=>exact ⟨(0),Yb,H',⟨Nat.le_refl _⟩,⟨by (with_reducible repeat (first|refine blk_drewN ?_ _|refine blk_drew ?_|refine blk_alloc ?_ _));exact BK171.out⟩,⟨bH⟩⟩
 case round =>
  clear H'
  try clear c1
  try clear p2
  obtain ⟨x9_1,rfl,HA,HK1,BK171,HB⟩:=hrel
  cases gk with
  | zero=>exact absurd HA.out (by simp [spec_l7Units.l0])
  | succ k1 =>
   have H:=HA.out
   clear HA
   simp only [spec_l7Units.l0] at H
   by_cases c4:x9_1 < (l1.length:Int)
   ·rw [if_pos c4] at H
    have c4b0:=decide_eq_true c4
    clear c4
    by_cases c5:0 ≤ x9_1
    ·rw [if_pos c5] at H
     have c5b0:=decide_eq_true c5
     clear c5
     by_cases c6:x9_1 < (l1.length:Int)
     ·rw [if_pos c6] at H
      have c6b0:=decide_eq_true c6
      clear c6
      replace H:=Option.bind_eq_some_iff.mp H
      obtain ⟨t174,A70,H⟩:=H
      replace H:(if t174 = true then (if ((rd_T65 l1 x9_1).f0 = true) then (spec_l7Units.l0 k1 l1 l1 (l1.length:Int) (wrap64 (x9_1 + 1)) l0_0) else (some false)) else (some false)) = some r:=H
      have A7:=Aside0.mk A70
      clear A70
      by_cases c8:t174 = true
      ·subst c8
       have H1:(if ((rd_T65 l1 x9_1).f0 = true) then (spec_l7Units.l0 k1 l1 l1 (l1.length:Int) (wrap64 (x9_1 + 1)) l0_0) else (some false)) = some r:=by rw [if_pos rfl] at H;exact H
       clear H
       have H:=H1
       clear H1
       obtain ⟨bq9,hbq9⟩:∃ b_:Bool,b_ = ((rd_T65 l1 x9_1).f0):=⟨_,rfl⟩
       replace H:(if (bq9 = true) then (spec_l7Units.l0 k1 l1 l1 (l1.length:Int) (wrap64 (x9_1 + 1)) l0_0) else (some false)) = some r:=by rw [← hbq9] at H;exact H
       (try rw [← hbq9] at A7)
       have Nbq9:=Aside0.mk hbq9
       clear hbq9
       by_cases c10:(bq9 = true)
       ·subst c10
        have H1:(spec_l7Units.l0 k1 l1 l1 (l1.length:Int) (wrap64 (x9_1 + 1)) l0_0) = some r:=by rw [if_pos rfl] at H;exact H
        clear H
        have H:=H1
        clear H1
        have H':=Aside0.mk H
        clear H
        have p172:0 ≤ (x9_1:Int):=oD
        have q172:x9_1 < (l1.length:Int):=oD
        obtain ⟨ad172,A172_1,c172_1,A172_2,c172_2,e172,hx172_0,hx172_1,hx172_2,hl172_1,hi172_1,hl172_2,hi172_2⟩:=at_T65 HR1.out x9_1 p172 q172
        (try rw [← Nbq9.out] at hx172_0)
        cases e172
        replace hx172_0:=(HB.out.cell (World.block_lt_of_cell? w _ hx172_0)).trans hx172_0
        replace hx172_1:=(HB.out.cell (World.block_lt_of_cell? w _ hx172_1)).trans hx172_1
        replace hx172_2:=(HB.out.cell (World.block_lt_of_cell? w _ hx172_2)).trans hx172_2
        have HR172_1:=Aside0.mk hi172_1
        have HC172_1:=Aside0.mk hl172_1
        clear hi172_1 hl172_1
        have HR172_2:=Aside0.mk hi172_2
        have HC172_2:=Aside0.mk hl172_2
        clear hi172_2 hl172_2
        replace p172:=eq_true p172
        replace q172:=eq_true q172
        go_wp2_with (first|((with_reducible refine gate_dst (N:=6) rfl ?_);(try (refine gate_guard (by rfl) ?_;dsimp only));refine box_event ?hg (N:=6) ?hd (cs:=#[.bool false,.slice none 0 0,.slice none 0 0]) (t:=65) ?hr ?_;(case hd=>rfl);(case hg=>rfl);(case hr=>first|(go_simp;done)|(go_simp;rfl));intro gb173 hg w11 hbox hb;have BK173:=Aside0.mk (hbox);have GW173:=Aside0.mk ((hZ:w.heap.size ≤ gb173));have GE173:=Aside0.mk ((hZ:w.heap.size ≤ gb173));replace HB:=Aside0.mk (below_step bH hb);have NB171_173:=Aside0.mk ((nL BK171:gb171 ≠ gb173));have NB173_171:=Aside0.mk ((nG BK171:gb173 ≠ gb171));replace BK171:=Aside0.mk (blk_below (bB BK171) hb);clear hb hbox hg;have hnb12:=NB173_171.out;have hnc12:=NB171_173.out;have hcz13_0:w11.cell? ⟨gb173,0,none⟩ = some (.bool false):=(blk_cell BK173.out 0).trans rfl;have hcz13_1:w11.cell? ⟨gb173,1,none⟩ = some (.slice none 0 0):=(blk_cell BK173.out 1).trans rfl;have hcz13_2:w11.cell? ⟨gb173,2,none⟩ = some (.slice none 0 0):=(blk_cell BK173.out 2).trans rfl;have hfz13_0:=blk_frozen BK173.out 0;have hfz13_1:=blk_frozen BK173.out 1;have hfz13_2:=blk_frozen BK173.out 2;have hcz14_0:w11.cell? ⟨gb171,0,none⟩ = some (.slice A0_0 l0_0.length c0_0):=(blk_cell BK171.out 0).trans rfl;have hfz14_0:=blk_frozen BK171.out 0)|((with_reducible refine gate_callee (f:=69) rfl ?_);refine goesL_ (some 15) rfl rfl Try.func69 (by kernel_rfl) rfl #[.agg #[.slice A0_0 l0_0.length c0_0],.agg #[.bool true,.slice A172_1 ((rd_T65 l1 x9_1).f1).length c172_1,.slice A172_2 ((rd_T65 l1 x9_1).f2).length c172_2]] rfl Ya ?_;(with_reducible refine (spec_l4Lit.calls k1 _ _ l0_0 true _ _ ((rd_T65 l1 x9_1).f1) _ _ ((rd_T65 l1 x9_1).f2) true _ ?side1 ?side2 ?side3 ?side4 ?side5 ?side6 A7.out).mono ?_);(case side1=>exact Kd.C_below HR0_0.out bH);(case side2=>exact HC0_0.out);(case side3=>exact Kd.C_below HR172_1.out bH);(case side4=>exact HC172_1.out);(case side5=>exact Kd.C_below HR172_2.out bH);(case side6=>exact HC172_2.out);rintro e w15 ⟨rfl,hb⟩;refine ⟨_,rfl,?_⟩;replace BK171:=Aside0.mk (blk_below (g:=gb171) (o:=.cells #[.slice A0_0 l0_0.length c0_0] 30 (0,0)) Yc hb);replace BK173:=Aside0.mk (blk_below (g:=gb173) (o:=.cells #[.bool true,.slice A172_1 ((rd_T65 l1 x9_1).f1).length c172_1,.slice A172_2 ((rd_T65 l1 x9_1).f2).length c172_2] 65 (0,0)) (by (with_reducible repeat (first|refine blk_drewN ?_ _|refine blk_drew ?_|refine blk_alloc ?_ _));refine blk_put (cs:=#[.bool true,.slice A172_1 ((rd_T65 l1 x9_1).f1).length c172_1,.slice none 0 0]) ?_ 2 _ rfl;(with_reducible repeat (first|refine blk_drewN ?_ _|refine blk_drew ?_|refine blk_alloc ?_ _));refine blk_put (cs:=#[.bool true,.slice none 0 0,.slice none 0 0]) ?_ 1 _ rfl;(with_reducible repeat (first|refine blk_drewN ?_ _|refine blk_drew ?_|refine blk_alloc ?_ _));refine blk_put (cs:=#[.bool false,.slice none 0 0,.slice none 0 0]) ?_ 0 _ rfl;(with_reducible repeat (first|refine blk_drewN ?_ _|refine blk_drew ?_|refine blk_alloc ?_ _));exact BK173.out) hb);replace HB:=Aside0.mk (below_step bH hb);(try clear hb);(try clear hb2);(try clear hk);(try clear hi);have hcz16_0:w15.cell? ⟨gb173,0,none⟩ = some (.bool true):=(blk_cell BK173.out 0).trans rfl;have hcz16_1:w15.cell? ⟨gb173,1,none⟩ = some (.slice A172_1 ((rd_T65 l1 x9_1).f1).length c172_1):=(blk_cell BK173.out 1).trans rfl;have hcz16_2:w15.cell? ⟨gb173,2,none⟩ = some (.slice A172_2 ((rd_T65 l1 x9_1).f2).length c172_2):=(blk_cell BK173.out 2).trans rfl;have hfz16_0:=blk_frozen BK173.out 0;have hfz16_1:=blk_frozen BK173.out 1;have hfz16_2:=blk_frozen BK173.out 2))
        go_roundg k1
        case measure=>have:=HK1.out;omega
        case rel=>exact ⟨(wrap64 (x9_1 + 1)),Yb,H',⟨by have:=HK1.out;omega⟩,⟨by (with_reducible repeat (first|refine blk_drewN ?_ _|refine blk_drew ?_|refine blk_alloc ?_ _));exact BK171.out⟩,⟨bH⟩⟩
       ·replace c10:=Bool.eq_false_iff.mpr c10
        subst c10
        have H1:(some false) = some r:=by rw [if_neg (show ¬ (false = true) by decide)] at H;exact H
        clear H
        have H:=H1
        clear H1
        obtain rfl:=Option.some.inj H
        have p172:0 ≤ (x9_1:Int):=oD
        have q172:x9_1 < (l1.length:Int):=oD
        obtain ⟨ad172,A172_1,c172_1,A172_2,c172_2,e172,hx172_0,hx172_1,hx172_2,hl172_1,hi172_1,hl172_2,hi172_2⟩:=at_T65 HR1.out x9_1 p172 q172
        (try rw [← Nbq9.out] at hx172_0)
        cases e172
        replace hx172_0:=(HB.out.cell (World.block_lt_of_cell? w _ hx172_0)).trans hx172_0
        replace hx172_1:=(HB.out.cell (World.block_lt_of_cell? w _ hx172_1)).trans hx172_1
        replace hx172_2:=(HB.out.cell (World.block_lt_of_cell? w _ hx172_2)).trans hx172_2
        have HR172_1:=Aside0.mk hi172_1
        have HC172_1:=Aside0.mk hl172_1
        clear hi172_1 hl172_1
        have HR172_2:=Aside0.mk hi172_2
        have HC172_2:=Aside0.mk hl172_2
        clear hi172_2 hl172_2
        replace p172:=eq_true p172
        replace q172:=eq_true q172
        go_wp2_with (first|((with_reducible refine gate_dst (N:=6) rfl ?_);(try (refine gate_guard (by rfl) ?_;dsimp only));refine box_event ?hg (N:=6) ?hd (cs:=#[.bool false,.slice none 0 0,.slice none 0 0]) (t:=65) ?hr ?_;(case hd=>rfl);(case hg=>rfl);(case hr=>first|(go_simp;done)|(go_simp;rfl));intro gb173 hg w17 hbox hb;have BK173:=Aside0.mk (hbox);have GW173:=Aside0.mk ((hZ:w.heap.size ≤ gb173));have GE173:=Aside0.mk ((hZ:w.heap.size ≤ gb173));replace HB:=Aside0.mk (below_step bH hb);have NB171_173:=Aside0.mk ((nL BK171:gb171 ≠ gb173));have NB173_171:=Aside0.mk ((nG BK171:gb173 ≠ gb171));replace BK171:=Aside0.mk (blk_below (bB BK171) hb);clear hb hbox hg;have hnb18:=NB173_171.out;have hnc18:=NB171_173.out;have hcz19_0:w17.cell? ⟨gb173,0,none⟩ = some (.bool false):=(blk_cell BK173.out 0).trans rfl;have hcz19_1:w17.cell? ⟨gb173,1,none⟩ = some (.slice none 0 0):=(blk_cell BK173.out 1).trans rfl;have hcz19_2:w17.cell? ⟨gb173,2,none⟩ = some (.slice none 0 0):=(blk_cell BK173.out 2).trans rfl;have hfz19_0:=blk_frozen BK173.out 0;have hfz19_1:=blk_frozen BK173.out 1;have hfz19_2:=blk_frozen BK173.out 2;have hcz20_0:w17.cell? ⟨gb171,0,none⟩ = some (.slice A0_0 l0_0.length c0_0):=(blk_cell BK171.out 0).trans rfl;have hfz20_0:=blk_frozen BK171.out 0)|((with_reducible refine gate_callee (f:=69) rfl ?_);refine goesL_ (some 15) rfl rfl Try.func69 (by kernel_rfl) rfl #[.agg #[.slice A0_0 l0_0.length c0_0],.agg #[.bool false,.slice A172_1 ((rd_T65 l1 x9_1).f1).length c172_1,.slice A172_2 ((rd_T65 l1 x9_1).f2).length c172_2]] rfl Ya ?_;(with_reducible refine (spec_l4Lit.calls k1 _ _ l0_0 false _ _ ((rd_T65 l1 x9_1).f1) _ _ ((rd_T65 l1 x9_1).f2) true _ ?side1 ?side2 ?side3 ?side4 ?side5 ?side6 A7.out).mono ?_);(case side1=>exact Kd.C_below HR0_0.out bH);(case side2=>exact HC0_0.out);(case side3=>exact Kd.C_below HR172_1.out bH);(case side4=>exact HC172_1.out);(case side5=>exact Kd.C_below HR172_2.out bH);(case side6=>exact HC172_2.out);rintro e w21 ⟨rfl,hb⟩;refine ⟨_,rfl,?_⟩;replace BK171:=Aside0.mk (blk_below (g:=gb171) (o:=.cells #[.slice A0_0 l0_0.length c0_0] 30 (0,0)) Yc hb);replace BK173:=Aside0.mk (blk_below (g:=gb173) (o:=.cells #[.bool false,.slice A172_1 ((rd_T65 l1 x9_1).f1).length c172_1,.slice A172_2 ((rd_T65 l1 x9_1).f2).length c172_2] 65 (0,0)) (by (with_reducible repeat (first|refine blk_drewN ?_ _|refine blk_drew ?_|refine blk_alloc ?_ _));refine blk_put (cs:=#[.bool false,.slice A172_1 ((rd_T65 l1 x9_1).f1).length c172_1,.slice none 0 0]) ?_ 2 _ rfl;(with_reducible repeat (first|refine blk_drewN ?_ _|refine blk_drew ?_|refine blk_alloc ?_ _));refine blk_put (cs:=#[.bool false,.slice none 0 0,.slice none 0 0]) ?_ 1 _ rfl;(with_reducible repeat (first|refine blk_drewN ?_ _|refine blk_drew ?_|refine blk_alloc ?_ _));refine blk_put (cs:=#[.bool false,.slice none 0 0,.slice none 0 0]) ?_ 0 _ rfl;(with_reducible repeat (first|refine blk_drewN ?_ _|refine blk_drew ?_|refine blk_alloc ?_ _));exact BK173.out) hb);replace HB:=Aside0.mk (below_step bH hb);(try clear hb);(try clear hb2);(try clear hk);(try clear hi);have hcz22_0:w21.cell? ⟨gb173,0,none⟩ = some (.bool false):=(blk_cell BK173.out 0).trans rfl;have hcz22_1:w21.cell? ⟨gb173,1,none⟩ = some (.slice A172_1 ((rd_T65 l1 x9_1).f1).length c172_1):=(blk_cell BK173.out 1).trans rfl;have hcz22_2:w21.cell? ⟨gb173,2,none⟩ = some (.slice A172_2 ((rd_T65 l1 x9_1).f2).length c172_2):=(blk_cell BK173.out 2).trans rfl;have hfz22_0:=blk_frozen BK173.out 0;have hfz22_1:=blk_frozen BK173.out 1;have hfz22_2:=blk_frozen BK173.out 2))
        go_ret
        exact ⟨by first|rfl|(simp [errW_none,errW_some] <;> rfl)|(simp [*,errW_none,errW_some] <;> rfl),bH⟩
      ·replace c8:=Bool.eq_false_iff.mpr c8
       subst c8
       have H1:(some false) = some r:=by rw [if_neg (show ¬ (false = true) by decide)] at H;exact H
       clear H
       have H:=H1
       clear H1
       obtain rfl:=Option.some.inj H
       have p172:0 ≤ (x9_1:Int):=oD
       have q172:x9_1 < (l1.length:Int):=oD
       obtain ⟨ad172,A172_1,c172_1,A172_2,c172_2,e172,hx172_0,hx172_1,hx172_2,hl172_1,hi172_1,hl172_2,hi172_2⟩:=at_T65 HR1.out x9_1 p172 q172
       cases e172
       replace hx172_0:=(HB.out.cell (World.block_lt_of_cell? w _ hx172_0)).trans hx172_0
       replace hx172_1:=(HB.out.cell (World.block_lt_of_cell? w _ hx172_1)).trans hx172_1
       replace hx172_2:=(HB.out.cell (World.block_lt_of_cell? w _ hx172_2)).trans hx172_2
       have HR172_1:=Aside0.mk hi172_1
       have HC172_1:=Aside0.mk hl172_1
       clear hi172_1 hl172_1
       have HR172_2:=Aside0.mk hi172_2
       have HC172_2:=Aside0.mk hl172_2
       clear hi172_2 hl172_2
       replace p172:=eq_true p172
       replace q172:=eq_true q172
       go_wp2_with (first|((with_reducible refine gate_dst (N:=6) rfl ?_);(try (refine gate_guard (by rfl) ?_;dsimp only));refine box_event ?hg (N:=6) ?hd (cs:=#[.bool false,.slice none 0 0,.slice none 0 0]) (t:=65) ?hr ?_;(case hd=>rfl);(case hg=>rfl);(case hr=>first|(go_simp;done)|(go_simp;rfl));intro gb173 hg w23 hbox hb;have BK173:=Aside0.mk (hbox);have GW173:=Aside0.mk ((hZ:w.heap.size ≤ gb173));have GE173:=Aside0.mk ((hZ:w.heap.size ≤ gb173));replace HB:=Aside0.mk (below_step bH hb);have NB171_173:=Aside0.mk ((nL BK171:gb171 ≠ gb173));have NB173_171:=Aside0.mk ((nG BK171:gb173 ≠ gb171));replace BK171:=Aside0.mk (blk_below (bB BK171) hb);clear hb hbox hg;have hnb24:=NB173_171.out;have hnc24:=NB171_173.out;have hcz25_0:w23.cell? ⟨gb173,0,none⟩ = some (.bool false):=(blk_cell BK173.out 0).trans rfl;have hcz25_1:w23.cell? ⟨gb173,1,none⟩ = some (.slice none 0 0):=(blk_cell BK173.out 1).trans rfl;have hcz25_2:w23.cell? ⟨gb173,2,none⟩ = some (.slice none 0 0):=(blk_cell BK173.out 2).trans rfl;have hfz25_0:=blk_frozen BK173.out 0;have hfz25_1:=blk_frozen BK173.out 1;have hfz25_2:=blk_frozen BK173.out 2;have hcz26_0:w23.cell? ⟨gb171,0,none⟩ = some (.slice A0_0 l0_0.length c0_0):=(blk_cell BK171.out 0).trans rfl;have hfz26_0:=blk_frozen BK171.out 0)|((with_reducible refine gate_callee (f:=69) rfl ?_);refine goesL_ (some 15) rfl rfl Try.func69 (by kernel_rfl) rfl #[.agg #[.slice A0_0 l0_0.length c0_0],.agg #[.bool ((rd_T65 l1 x9_1).f0),.slice A172_1 ((rd_T65 l1 x9_1).f1).length c172_1,.slice A172_2 ((rd_T65 l1 x9_1).f2).length c172_2]] rfl Ya ?_;(with_reducible refine (spec_l4Lit.calls k1 _ _ l0_0 ((rd_T65 l1 x9_1).f0) _ _ ((rd_T65 l1 x9_1).f1) _ _ ((rd_T65 l1 x9_1).f2) false _ ?side1 ?side2 ?side3 ?side4 ?side5 ?side6 A7.out).mono ?_);(case side1=>exact Kd.C_below HR0_0.out bH);(case side2=>exact HC0_0.out);(case side3=>exact Kd.C_below HR172_1.out bH);(case side4=>exact HC172_1.out);(case side5=>exact Kd.C_below HR172_2.out bH);(case side6=>exact HC172_2.out);rintro e w27 ⟨rfl,hb⟩;refine ⟨_,rfl,?_⟩;replace BK171:=Aside0.mk (blk_below (g:=gb171) (o:=.cells #[.slice A0_0 l0_0.length c0_0] 30 (0,0)) Yc hb);replace BK173:=Aside0.mk (blk_below (g:=gb173) (o:=.cells #[.bool ((rd_T65 l1 x9_1).f0),.slice A172_1 ((rd_T65 l1 x9_1).f1).length c172_1,.slice A172_2 ((rd_T65 l1 x9_1).f2).length c172_2] 65 (0,0)) (by (with_reducible repeat (first|refine blk_drewN ?_ _|refine blk_drew ?_|refine blk_alloc ?_ _));refine blk_put (cs:=#[.bool ((rd_T65 l1 x9_1).f0),.slice A172_1 ((rd_T65 l1 x9_1).f1).length c172_1,.slice none 0 0]) ?_ 2 _ rfl;(with_reducible repeat (first|refine blk_drewN ?_ _|refine blk_drew ?_|refine blk_alloc ?_ _));refine blk_put (cs:=#[.bool ((rd_T65 l1 x9_1).f0),.slice none 0 0,.slice none 0 0]) ?_ 1 _ rfl;(with_reducible repeat (first|refine blk_drewN ?_ _|refine blk_drew ?_|refine blk_alloc ?_ _));refine blk_put (cs:=#[.bool false,.slice none 0 0,.slice none 0 0]) ?_ 0 _ rfl;(with_reducible repeat (first|refine blk_drewN ?_ _|refine blk_drew ?_|refine blk_alloc ?_ _));exact BK173.out) hb);replace HB:=Aside0.mk (below_step bH hb);(try clear hb);(try clear hb2);(try clear hk);(try clear hi)))
       go_ret
       exact ⟨by first|rfl|(simp [errW_none,errW_some] <;> rfl)|(simp [*,errW_none,errW_some] <;> rfl),bH⟩
     ·rw [if_neg c6] at H
      exact absurd H (by simp)
    ·rw [if_neg c5] at H
     exact absurd H (by simp)
   ·rw [if_neg c4] at H
    have c4b0:decide (x9_1 < (l1.length:Int)) = false:=decide_eq_false c4
    clear c4
    replace H:=Option.bind_eq_some_iff.mp H
    obtain ⟨t175,A280,H⟩:=H
    replace H:(if t175 = true then (some (decide ((l1.length:Int) ≤ 10))) else (some false)) = some r:=H
    have A28:=Aside0.mk A280
    clear A280
    by_cases c29:t175 = true
    ·subst c29
     have H1:(some (decide ((l1.length:Int) ≤ 10))) = some r:=by rw [if_pos rfl] at H;exact H
     clear H
     have H:=H1
     clear H1
     obtain rfl:=Option.some.inj H
     have hcz30_0:wr.cell? ⟨gb171,0,none⟩ = some (.slice A0_0 l0_0.length c0_0):=(blk_cell BK171.out 0).trans rfl
     have hfz30_0:=blk_frozen BK171.out 0
     go_wp2_with (first|((with_reducible refine gate_callee (f:=61) rfl ?_);refine goesL_ (some 24) rfl rfl Try.func61 (by kernel_rfl) rfl #[.agg #[.slice A0_0 l0_0.length c0_0]] rfl Ya ?_;(with_reducible refine (spec_GoodSign.calls k1 _ _ l0_0 true _ ?side1 ?side2 A28.out).mono ?_);(case side1=>exact sC HR0_0);(case side2=>exact HC0_0.out);rintro e w31 ⟨rfl,hb⟩;refine ⟨_,rfl,?_⟩;replace BK171:=Aside0.mk (blk_below (bB BK171) hb);replace HB:=Aside0.mk (below_step bH hb);(try clear hb);(try clear hb2);(try clear hk);(try clear hi)))
     go_ret
     exact ⟨by first|rfl|(simp [errW_none,errW_some] <;> rfl)|(simp [*,errW_none,errW_some] <;> rfl),bH⟩
    ·replace c29:=Bool.eq_false_iff.mpr c29
     subst c29
     have H1:(some false) = some r:=by rw [if_neg (show ¬ (false = true) by decide)] at H;exact H
     clear H
     have H:=H1
     clear H1
     obtain rfl:=Option.some.inj H
     have hcz32_0:wr.cell? ⟨gb171,0,none⟩ = some (.slice A0_0 l0_0.length c0_0):=(blk_cell BK171.out 0).trans rfl
     have hfz32_0:=blk_frozen BK171.out 0
     go_wp2_with (first|((with_reducible refine gate_callee (f:=61) rfl ?_);refine goesL_ (some 24) rfl rfl Try.func61 (by kernel_rfl) rfl #[.agg #[.slice A0_0 l0_0.length c0_0]] rfl Ya ?_;(with_reducible refine (spec_GoodSign.calls k1 _ _ l0_0 false _ ?side1 ?side2 A28.out).mono ?_);(case side1=>exact sC HR0_0);(case side2=>exact HC0_0.out);rintro e w33 ⟨rfl,hb⟩;refine ⟨_,rfl,?_⟩;replace BK171:=Aside0.mk (blk_below (bB BK171) hb);replace HB:=Aside0.mk (below_step bH hb);(try clear hb);(try clear hb2);(try clear hk);(try clear hi)))
     go_ret
     exact ⟨by first|rfl|(simp [errW_none,errW_some] <;> rfl)|(simp [*,errW_none,errW_some] <;> rfl),bH⟩

/-! ### spec_l4Clause: function 63 -/
def spec_l4Clause.l0:Nat → List (S65) → List (S65) → Int → Int → List Int → Option (Bool)
 | 0,_,_,_,_,_=>none
 | k + 1,x1,x7,x8,x9,x177000=>if x9 < x8 then (if 0 ≤ x9 then (if x9 < (x7.length:Int) then ((spec_l4Lit.f k x177000 ((rd_T65 x7 x9).f0) ((rd_T65 x7 x9).f1) ((rd_T65 x7 x9).f2)).bind fun t179=>(if t179 = true then (spec_l4Clause.l0 k x1 x7 x8 (wrap64 (x9 + 1)) x177000) else (some false))) else (none)) else (none)) else (some (decide ((x1.length:Int) ≤ 8)))
def spec_l4Clause.f (k:Nat) (l0_0:List Int) (l1:List (S65)):Option (Bool):=spec_l4Clause.l0 k l1 l1 (l1.length:Int) 0 l0_0
theorem spec_l4Clause.mono_l:∀ k,(∀ y0 y1 y2 y3 y4,LeO (spec_l4Clause.l0 k y0 y1 y2 y3 y4) (spec_l4Clause.l0 (k + 1) y0 y1 y2 y3 y4))
 | 0=>fun _ _ _ _ _ r h=>by simp [spec_l4Clause.l0] at h
 | k + 1=>by
  have ih0:=spec_l4Clause.mono_l k
  ·intro y0 y1 y2 y3 y4
   unfold spec_l4Clause.l0
   have m0:=@spec_l4Lit.mono
   exact mO
theorem spec_l4Clause.mono:∀ a0 a1 k,LeO (spec_l4Clause.f k a0 a1) (spec_l4Clause.f (k + 1) a0 a1):=by
 intro a0 a1 k
 have ih0:=spec_l4Clause.mono_l k
 unfold spec_l4Clause.f
 have m0:=@spec_l4Lit.mono
 exact mO
set_option maxHeartbeats 8000000 in
set_option maxRecDepth 100000 in
theorem spec_l4Clause.calls (k:Nat) (A0_0:Option Addr) (c0_0:Nat) (l0_0:List Int) (A1:Option Addr) (c1:Nat) (l1:List (S65)) (r:Bool) (w:World) (hr0_0:Kd.C (Kd.int .i64) w A0_0 l0_0.length l0_0) (hc0_0:l0_0.length ≤ c0_0) (hr1:Kd.C k65 w A1 l1.length l1) (hc1:l1.length ≤ c1) (h:spec_l4Clause.f k l0_0 l1 = some r) :
  Calls Try.prog 63 #[.agg #[.slice A0_0 l0_0.length c0_0],.slice A1 l1.length c1] w fun e w'=>e = .returned (.bool r) ∧ Below w.heap.size w w':=by
 have hu30:=Try.underlying30
 have hu65:=Try.underlying65
 have HR0_0:=Aside0.mk hr0_0
 have HC0_0:=Aside0.mk hc0_0
 clear hr0_0 hc0_0
 have HR1:=Aside0.mk hr1
 have HC1:=Aside0.mk hc1
 clear hr1 hc1
 have HB:=Aside0.mk (Below.refl w.heap.size w)
 have H:(spec_l4Clause.l0 k l1 l1 (l1.length:Int) 0 l0_0) = some r:=h
 clear h
 have H':=Aside0.mk H
 clear H
 go_enter Try.func63,Try.ntmps63
 go_wp2_with (first|((with_reducible refine gate_dst (N:=2) rfl ?_);refine box_event ?hg (N:=2) ?hd (cs:=#[.slice A0_0 l0_0.length c0_0]) (t:=30) ?hr ?_;(case hd=>rfl);(case hg=>rfl);(case hr=>first|(go_simp;done)|(go_simp;rfl));intro gb176 hg w3 hbox hb;have BK176:=Aside0.mk (hbox);have GW176:=Aside0.mk ((hZ:w.heap.size ≤ gb176));have GE176:=Aside0.mk ((hZ:w.heap.size ≤ gb176));replace HB:=Aside0.mk (below_step bH hb);clear hb hbox hg))
 go_loopg [9] k (fun kq v9 w'=>∃ (x9_1:Int),v9 = .int .i64 x9_1 ∧ Aside0 (spec_l4Clause.l0 kq l1 l1 (l1.length:Int) x9_1 l0_0 = some r) ∧ Aside0 (kq ≤ k) ∧ Aside0 (w'.heap[gb176]? = some (.cells #[(.slice A0_0 l0_0.length c0_0)] 30 (0,0))) ∧ Aside0 (Below w.heap.size w w'))
 case atStart=>exact ⟨(0),Yb,H',⟨Nat.le_refl _⟩,⟨by (with_reducible repeat (first|refine blk_drewN ?_ _|refine blk_drew ?_|refine blk_alloc ?_ _));exact BK176.out⟩,⟨bH⟩⟩
 case round =>
  clear H'
  try clear c1
  try clear p2
  obtain ⟨x9_1,rfl,HA,HK1,BK176,HB⟩:=hrel
  cases gk with
  | zero=>exact absurd HA.out (by simp [spec_l4Clause.l0])
  | succ k1 =>
   have H:=HA.out
   clear HA
   simp only [spec_l4Clause.l0] at H
   by_cases c4:x9_1 < (l1.length:Int)
   ·rw [if_pos c4] at H
    have c4b0:=decide_eq_true c4
    clear c4
    by_cases c5:0 ≤ x9_1
    ·rw [if_pos c5] at H
     have c5b0:=decide_eq_true c5
     clear c5
     by_cases c6:x9_1 < (l1.length:Int)
     ·rw [if_pos c6] at H
      have c6b0:=decide_eq_true c6
      clear c6
      replace H:=Option.bind_eq_some_iff.mp H
      obtain ⟨t179,A70,H⟩:=H
      replace H:(if t179 = true then (spec_l4Clause.l0 k1 l1 l1 (l1.length:Int) (wrap64 (x9_1 + 1)) l0_0) else (some false)) = some r:=H
      have A7:=Aside0.mk A70
      clear A70
      by_cases c8:t179 = true
      ·subst c8
       have H1:(spec_l4Clause.l0 k1 l1 l1 (l1.length:Int) (wrap64 (x9_1 + 1)) l0_0) = some r:=by rw [if_pos rfl] at H;exact H
       clear H
       have H:=H1
       clear H1
       have H':=Aside0.mk H
       clear H
       have p177:0 ≤ (x9_1:Int):=oD
       have q177:x9_1 < (l1.length:Int):=oD
       obtain ⟨ad177,A177_1,c177_1,A177_2,c177_2,e177,hx177_0,hx177_1,hx177_2,hl177_1,hi177_1,hl177_2,hi177_2⟩:=at_T65 HR1.out x9_1 p177 q177
       cases e177
       replace hx177_0:=(HB.out.cell (World.block_lt_of_cell? w _ hx177_0)).trans hx177_0
       replace hx177_1:=(HB.out.cell (World.block_lt_of_cell? w _ hx177_1)).trans hx177_1
       replace hx177_2:=(HB.out.cell (World.block_lt_of_cell? w _ hx177_2)).trans hx177_2
       have HR177_1:=Aside0.mk hi177_1
       have HC177_1:=Aside0.mk hl177_1
       clear hi177_1 hl177_1
       have HR177_2:=Aside0.mk hi177_2
       have HC177_2:=Aside0.mk hl177_2
       clear hi177_2 hl177_2
       replace p177:=eq_true p177
       replace q177:=eq_true q177
       go_wp2_with (first|((with_reducible refine gate_dst (N:=6) rfl ?_);refine box_event ?hg (N:=6) ?hd (cs:=#[.bool false,.slice none 0 0,.slice none 0 0]) (t:=65) ?hr ?_;(case hd=>rfl);(case hg=>rfl);(case hr=>first|(go_simp;done)|(go_simp;rfl));intro gb178 hg w9 hbox hb;have BK178:=Aside0.mk (hbox);have GW178:=Aside0.mk ((hZ:w.heap.size ≤ gb178));have GE178:=Aside0.mk ((hZ:w.heap.size ≤ gb178));replace HB:=Aside0.mk (below_step bH hb);have NB176_178:=Aside0.mk ((nL BK176:gb176 ≠ gb178));have NB178_176:=Aside0.mk ((nG BK176:gb178 ≠ gb176));replace BK176:=Aside0.mk (blk_below (bB BK176) hb);clear hb hbox hg;have hnb10:=NB178_176.out;have hnc10:=NB176_178.out;have hcz11_0:w9.cell? ⟨gb178,0,none⟩ = some (.bool false):=(blk_cell BK178.out 0).trans rfl;have hcz11_1:w9.cell? ⟨gb178,1,none⟩ = some (.slice none 0 0):=(blk_cell BK178.out 1).trans rfl;have hcz11_2:w9.cell? ⟨gb178,2,none⟩ = some (.slice none 0 0):=(blk_cell BK178.out 2).trans rfl;have hfz11_0:=blk_frozen BK178.out 0;have hfz11_1:=blk_frozen BK178.out 1;have hfz11_2:=blk_frozen BK178.out 2;have hcz12_0:w9.cell? ⟨gb176,0,none⟩ = some (.slice A0_0 l0_0.length c0_0):=(blk_cell BK176.out 0).trans rfl;have hfz12_0:=blk_frozen BK176.out 0)|((with_reducible refine gate_callee (f:=69) rfl ?_);refine goesL_ (some 15) rfl rfl Try.func69 (by kernel_rfl) rfl #[.agg #[.slice A0_0 l0_0.length c0_0],.agg #[.bool ((rd_T65 l1 x9_1).f0),.slice A177_1 ((rd_T65 l1 x9_1).f1).length c177_1,.slice A177_2 ((rd_T65 l1 x9_1).f2).length c177_2]] rfl Ya ?_;(with_reducible refine (spec_l4Lit.calls k1 _ _ l0_0 ((rd_T65 l1 x9_1).f0) _ _ ((rd_T65 l1 x9_1).f1) _ _ ((rd_T65 l1 x9_1).f2) true _ ?side1 ?side2 ?side3 ?side4 ?side5 ?side6 A7.out).mono ?_);(case side1=>exact Kd.C_below HR0_0.out bH);(case side2=>exact HC0_0.out);(case side3=>exact Kd.C_below HR177_1.out bH);(case side4=>exact HC177_1.out);(case side5=>exact Kd.C_below HR177_2.out bH);(case side6=>exact HC177_2.out);rintro e w13 ⟨rfl,hb⟩;refine ⟨_,rfl,?_⟩;replace BK176:=Aside0.mk (blk_below (g:=gb176) (o:=.cells #[.slice A0_0 l0_0.length c0_0] 30 (0,0)) Yf hb);replace BK178:=Aside0.mk (blk_below (g:=gb178) (o:=.cells #[.bool ((rd_T65 l1 x9_1).f0),.slice A177_1 ((rd_T65 l1 x9_1).f1).length c177_1,.slice A177_2 ((rd_T65 l1 x9_1).f2).length c177_2] 65 (0,0)) Ye hb);replace HB:=Aside0.mk (below_step bH hb);(try clear hb);(try clear hb2);(try clear hk);(try clear hi)))
       go_roundg k1
       case measure=>have:=HK1.out;omega
       case rel=>exact ⟨(wrap64 (x9_1 + 1)),Yb,H',⟨by have:=HK1.out;omega⟩,⟨by (with_reducible repeat (first|refine blk_drewN ?_ _|refine blk_drew ?_|refine blk_alloc ?_ _));exact BK176.out⟩,⟨bH⟩⟩
      ·replace c8:=Bool.eq_false_iff.mpr c8
       subst c8
       have H1:(some false) = some r:=by rw [if_neg (show ¬ (false = true) by decide)] at H;exact H
       clear H
       have H:=H1
       clear H1
       obtain rfl:=Option.some.inj H
       have p177:0 ≤ (x9_1:Int):=oD
       have q177:x9_1 < (l1.length:Int):=oD
       obtain ⟨ad177,A177_1,c177_1,A177_2,c177_2,e177,hx177_0,hx177_1,hx177_2,hl177_1,hi177_1,hl177_2,hi177_2⟩:=at_T65 HR1.out x9_1 p177 q177
       cases e177
       replace hx177_0:=(HB.out.cell (World.block_lt_of_cell? w _ hx177_0)).trans hx177_0
       replace hx177_1:=(HB.out.cell (World.block_lt_of_cell? w _ hx177_1)).trans hx177_1
       replace hx177_2:=(HB.out.cell (World.block_lt_of_cell? w _ hx177_2)).trans hx177_2
       have HR177_1:=Aside0.mk hi177_1
       have HC177_1:=Aside0.mk hl177_1
       clear hi177_1 hl177_1
       have HR177_2:=Aside0.mk hi177_2
       have HC177_2:=Aside0.mk hl177_2
       clear hi177_2 hl177_2
       replace p177:=eq_true p177
       replace q177:=eq_true q177
       go_wp2_with (first|((with_reducible refine gate_dst (N:=6) rfl ?_);refine box_event ?hg (N:=6) ?hd (cs:=#[.bool false,.slice none 0 0,.slice none 0 0]) (t:=65) ?hr ?_;(case hd=>rfl);(case hg=>rfl);(case hr=>first|(go_simp;done)|(go_simp;rfl));intro gb178 hg w14 hbox hb;have BK178:=Aside0.mk (hbox);have GW178:=Aside0.mk ((hZ:w.heap.size ≤ gb178));have GE178:=Aside0.mk ((hZ:w.heap.size ≤ gb178));replace HB:=Aside0.mk (below_step bH hb);have NB176_178:=Aside0.mk ((nL BK176:gb176 ≠ gb178));have NB178_176:=Aside0.mk ((nG BK176:gb178 ≠ gb176));replace BK176:=Aside0.mk (blk_below (bB BK176) hb);clear hb hbox hg;have hnb15:=NB178_176.out;have hnc15:=NB176_178.out;have hcz16_0:w14.cell? ⟨gb178,0,none⟩ = some (.bool false):=(blk_cell BK178.out 0).trans rfl;have hcz16_1:w14.cell? ⟨gb178,1,none⟩ = some (.slice none 0 0):=(blk_cell BK178.out 1).trans rfl;have hcz16_2:w14.cell? ⟨gb178,2,none⟩ = some (.slice none 0 0):=(blk_cell BK178.out 2).trans rfl;have hfz16_0:=blk_frozen BK178.out 0;have hfz16_1:=blk_frozen BK178.out 1;have hfz16_2:=blk_frozen BK178.out 2;have hcz17_0:w14.cell? ⟨gb176,0,none⟩ = some (.slice A0_0 l0_0.length c0_0):=(blk_cell BK176.out 0).trans rfl;have hfz17_0:=blk_frozen BK176.out 0)|((with_reducible refine gate_callee (f:=69) rfl ?_);refine goesL_ (some 15) rfl rfl Try.func69 (by kernel_rfl) rfl #[.agg #[.slice A0_0 l0_0.length c0_0],.agg #[.bool ((rd_T65 l1 x9_1).f0),.slice A177_1 ((rd_T65 l1 x9_1).f1).length c177_1,.slice A177_2 ((rd_T65 l1 x9_1).f2).length c177_2]] rfl Ya ?_;(with_reducible refine (spec_l4Lit.calls k1 _ _ l0_0 ((rd_T65 l1 x9_1).f0) _ _ ((rd_T65 l1 x9_1).f1) _ _ ((rd_T65 l1 x9_1).f2) false _ ?side1 ?side2 ?side3 ?side4 ?side5 ?side6 A7.out).mono ?_);(case side1=>exact Kd.C_below HR0_0.out bH);(case side2=>exact HC0_0.out);(case side3=>exact Kd.C_below HR177_1.out bH);(case side4=>exact HC177_1.out);(case side5=>exact Kd.C_below HR177_2.out bH);(case side6=>exact HC177_2.out);rintro e w18 ⟨rfl,hb⟩;refine ⟨_,rfl,?_⟩;replace BK176:=Aside0.mk (blk_below (g:=gb176) (o:=.cells #[.slice A0_0 l0_0.length c0_0] 30 (0,0)) Yf hb);replace BK178:=Aside0.mk (blk_below (g:=gb178) (o:=.cells #[.bool ((rd_T65 l1 x9_1).f0),.slice A177_1 ((rd_T65 l1 x9_1).f1).length c177_1,.slice A177_2 ((rd_T65 l1 x9_1).f2).length c177_2] 65 (0,0)) Ye hb);replace HB:=Aside0.mk (below_step bH hb);(try clear hb);(try clear hb2);(try clear hk);(try clear hi)))
       go_ret
       exact ⟨by first|rfl|(simp [errW_none,errW_some] <;> rfl)|(simp [*,errW_none,errW_some] <;> rfl),bH⟩
     ·rw [if_neg c6] at H
      exact absurd H (by simp)
    ·rw [if_neg c5] at H
     exact absurd H (by simp)
   ·rw [if_neg c4] at H
    have c4b0:decide (x9_1 < (l1.length:Int)) = false:=decide_eq_false c4
    clear c4
    obtain rfl:=Option.some.inj H
    go_wp2
    go_ret
    exact ⟨by first|rfl|(simp [errW_none,errW_some] <;> rfl)|(simp [*,errW_none,errW_some] <;> rfl),bH⟩

/-! ### spec_GoodClause: function 50 -/
def spec_GoodClause.f (k:Nat) (l0_0:List Int) (l1:List (S65)):Option (Bool):=(spec_GoodSign.f k l0_0).bind fun t181=>(if t181 = true then ((spec_l4Clause.f k l0_0 l1).bind fun t182=>(some t182)) else (some false))
theorem spec_GoodClause.mono:∀ a0 a1 k,LeO (spec_GoodClause.f k a0 a1) (spec_GoodClause.f (k + 1) a0 a1):=by
 intro a0 a1 k
 unfold spec_GoodClause.f
 have m0:=@spec_GoodSign.mono
 have m1:=@spec_l4Clause.mono
 exact mO
set_option maxHeartbeats 8000000 in
set_option maxRecDepth 100000 in
theorem spec_GoodClause.calls (k:Nat) (A0_0:Option Addr) (c0_0:Nat) (l0_0:List Int) (A1:Option Addr) (c1:Nat) (l1:List (S65)) (r:Bool) (w:World) (hr0_0:Kd.C (Kd.int .i64) w A0_0 l0_0.length l0_0) (hc0_0:l0_0.length ≤ c0_0) (hr1:Kd.C k65 w A1 l1.length l1) (hc1:l1.length ≤ c1) (h:spec_GoodClause.f k l0_0 l1 = some r) :
  Calls Try.prog 50 #[.agg #[.slice A0_0 l0_0.length c0_0],.slice A1 l1.length c1] w fun e w'=>e = .returned (.bool r) ∧ Below w.heap.size w w':=by
 have hu30:=Try.underlying30
 have HR0_0:=Aside0.mk hr0_0
 have HC0_0:=Aside0.mk hc0_0
 clear hr0_0 hc0_0
 have HR1:=Aside0.mk hr1
 have HC1:=Aside0.mk hc1
 clear hr1 hc1
 have HB:=Aside0.mk (Below.refl w.heap.size w)
 have H:((spec_GoodSign.f k l0_0).bind fun t181=>(if t181 = true then ((spec_l4Clause.f k l0_0 l1).bind fun t182=>(some t182)) else (some false))) = some r:=h
 clear h
 replace H:=Option.bind_eq_some_iff.mp H
 obtain ⟨t181,A30,H⟩:=H
 replace H:(if t181 = true then ((spec_l4Clause.f k l0_0 l1).bind fun t182=>(some t182)) else (some false)) = some r:=H
 have A3:=Aside0.mk A30
 clear A30
 by_cases c4:t181 = true
 ·subst c4
  have H1:((spec_l4Clause.f k l0_0 l1).bind fun t182=>(some t182)) = some r:=by rw [if_pos rfl] at H;exact H
  clear H
  have H:=H1
  clear H1
  replace H:=Option.bind_eq_some_iff.mp H
  obtain ⟨t182,A50,H⟩:=H
  replace H:(some t182) = some r:=H
  have A5:=Aside0.mk A50
  clear A50
  obtain rfl:=Option.some.inj H
  go_enter Try.func50,Try.ntmps50
  go_wp2_with (first|((with_reducible refine gate_dst (N:=2) rfl ?_);refine box_event ?hg (N:=2) ?hd (cs:=#[.slice A0_0 l0_0.length c0_0]) (t:=30) ?hr ?_;(case hd=>rfl);(case hg=>rfl);(case hr=>first|(go_simp;done)|(go_simp;rfl));intro gb180 hg w6 hbox hb;have BK180:=Aside0.mk (hbox);have GW180:=Aside0.mk ((hZ:w.heap.size ≤ gb180));have GE180:=Aside0.mk ((hZ:w.heap.size ≤ gb180));replace HB:=Aside0.mk (below_step bH hb);clear hb hbox hg;have hcz7_0:w6.cell? ⟨gb180,0,none⟩ = some (.slice A0_0 l0_0.length c0_0):=(blk_cell BK180.out 0).trans rfl;have hfz7_0:=blk_frozen BK180.out 0)|((with_reducible refine gate_callee (f:=61) rfl ?_);refine goesL_ (some 6) rfl rfl Try.func61 (by kernel_rfl) rfl #[.agg #[.slice A0_0 l0_0.length c0_0]] rfl Ya ?_;(with_reducible refine (spec_GoodSign.calls k _ _ l0_0 true _ ?side1 ?side2 A3.out).mono ?_);(case side1=>exact sC HR0_0);(case side2=>exact HC0_0.out);rintro e w8 ⟨rfl,hb⟩;refine ⟨_,rfl,?_⟩;replace BK180:=Aside0.mk (blk_below (bB BK180) hb);replace HB:=Aside0.mk (below_step bH hb);(try clear hb);(try clear hb2);(try clear hk);(try clear hi);have hcz9_0:w8.cell? ⟨gb180,0,none⟩ = some (.slice A0_0 l0_0.length c0_0):=(blk_cell BK180.out 0).trans rfl;have hfz9_0:=blk_frozen BK180.out 0)|(go_at_call 63;(with_reducible refine (spec_l4Clause.calls k _ _ l0_0 _ _ l1 t182 _ ?side1 ?side2 ?side3 ?side4 A5.out).mono ?_);(case side1=>exact sC HR0_0);(case side2=>exact HC0_0.out);(case side3=>exact sC HR1);(case side4=>exact HC1.out);rintro e w10 ⟨rfl,hb⟩;replace BK180:=Aside0.mk (blk_below (bB BK180) hb);replace HB:=Aside0.mk (below_step bH hb);(try clear hb);(try clear hb2);(try clear hk);(try clear hi)))
  go_ret
  exact ⟨by first|rfl|(simp [errW_none,errW_some] <;> rfl)|(simp [*,errW_none,errW_some] <;> rfl),bH⟩
 ·replace c4:=Bool.eq_false_iff.mpr c4
  subst c4
  have H1:(some false) = some r:=by rw [if_neg (show ¬ (false = true) by decide)] at H;exact H
  clear H
  have H:=H1
  clear H1
  obtain rfl:=Option.some.inj H
  go_enter Try.func50,Try.ntmps50
  go_wp2_with (first|((with_reducible refine gate_dst (N:=2) rfl ?_);refine box_event ?hg (N:=2) ?hd (cs:=#[.slice A0_0 l0_0.length c0_0]) (t:=30) ?hr ?_;(case hd=>rfl);(case hg=>rfl);(case hr=>first|(go_simp;done)|(go_simp;rfl));intro gb180 hg w11 hbox hb;have BK180:=Aside0.mk (hbox);have GW180:=Aside0.mk ((hZ:w.heap.size ≤ gb180));have GE180:=Aside0.mk ((hZ:w.heap.size ≤ gb180));replace HB:=Aside0.mk (below_step bH hb);clear hb hbox hg;have hcz12_0:w11.cell? ⟨gb180,0,none⟩ = some (.slice A0_0 l0_0.length c0_0):=(blk_cell BK180.out 0).trans rfl;have hfz12_0:=blk_frozen BK180.out 0)|((with_reducible refine gate_callee (f:=61) rfl ?_);refine goesL_ (some 6) rfl rfl Try.func61 (by kernel_rfl) rfl #[.agg #[.slice A0_0 l0_0.length c0_0]] rfl Ya ?_;(with_reducible refine (spec_GoodSign.calls k _ _ l0_0 false _ ?side1 ?side2 A3.out).mono ?_);(case side1=>exact sC HR0_0);(case side2=>exact HC0_0.out);rintro e w13 ⟨rfl,hb⟩;refine ⟨_,rfl,?_⟩;replace BK180:=Aside0.mk (blk_below (bB BK180) hb);replace HB:=Aside0.mk (below_step bH hb);(try clear hb);(try clear hb2);(try clear hk);(try clear hi)))
  go_ret
  exact ⟨by first|rfl|(simp [errW_none,errW_some] <;> rfl)|(simp [*,errW_none,errW_some] <;> rfl),bH⟩

/-! ### spec_l1Own: function 82 -/
def spec_l1Own.f (l0:List Int):Option (List Int):=(some (([]:List Int):List Int)).bind fun y183=>(if y183.length + l0.length < 17592186044416 then (some (y183 ++ l0)) else (none))
set_option maxHeartbeats 8000000 in
set_option maxRecDepth 100000 in
theorem spec_l1Own.calls (A0:Option Addr) (c0:Nat) (l0:List Int) (r:List Int) (w:World) (hr0:Kd.C (Kd.int .i64) w A0 l0.length l0) (hc0:l0.length ≤ c0) (h:spec_l1Own.f l0 = some r) :
  Calls Try.prog 82 #[.slice A0 l0.length c0] w fun e w'=>∃ v0_:Value,e = .returned (v0_) ∧ Kd.R (Kd.int .i64) 3 w' w.heap.size (fun _=>True) v0_ r ∧ Below w.heap.size w w':=by
 have HR0:=Aside0.mk hr0
 have HC0:=Aside0.mk hc0
 clear hr0 hc0
 have HB:=Aside0.mk (Below.refl w.heap.size w)
 have H:((some (([]:List Int):List Int)).bind fun y183=>(if y183.length + l0.length < 17592186044416 then (some (y183 ++ l0)) else (none))) = some r:=h
 clear h
 obtain ⟨y183,hy183⟩:∃ y_:List Int,y_ = (([]:List Int)):=⟨_,rfl⟩
 replace H:(if y183.length + l0.length < 17592186044416 then (some (y183 ++ l0)) else (none)) = some r:=by first|(rw [hy183];with_reducible exact H)|(have H2_:=(Option.bind_some _ _).symm.trans H;rw [hy183];with_reducible exact H2_)|(have H2_:=(Option.bind_some _ _).symm.trans H;with_reducible exact H2_)|with_reducible exact H|(rw [hy183];exact H)|exact H
 have Ny183:=Aside0.mk hy183
 clear hy183
 by_cases c2:y183.length + l0.length < 17592186044416
 ·rw [if_pos c2] at H
  have LMc2:=Aside0.mk c2
  clear c2
  obtain ⟨y186,hy186⟩:∃ y_:List Int,y_ = (y183 ++ l0):=⟨_,rfl⟩
  replace H:(some y186) = some r:=by first|(rw [hy186];with_reducible exact H)|(have H2_:=(Option.bind_some _ _).symm.trans H;rw [hy186];with_reducible exact H2_)|(have H2_:=(Option.bind_some _ _).symm.trans H;with_reducible exact H2_)|with_reducible exact H|(rw [hy186];exact H)|exact H
  have Ny186:=Aside0.mk hy186
  clear hy186
  obtain rfl:=Option.some.inj H
  go_enter Try.func82,Try.ntmps82
  go_wp2_with (first|((with_reducible refine gate_dst (N:=3) rfl ?_);refine Kd.R_lit (Kd.int .i64) _ 3 ?hg (N:=3) ?hd (xs:=([]:List Int)) (inner:=[]) (ok:=fun _=>True) (okp:=fun _=>True) ?hr ?hp (fun _ hk=>hk) trivial (Below.refl _ _) (Nat.le_refl _) (by simp) ?_;(case hd=>rfl);(case hg=>rfl);(case hr=>first|(go_simp;done)|(go_simp;rfl));(case hp=>exact (Reps.none _ _));intro v184 w3 ho4 hb hg_ hnew_;clear hg_ hnew_;(first|rw [← Ny183.out] at ho4|(simp only [Int.reduceToNat] at ho4;rw [← Ny183.out] at ho4));have HO185:=Aside0.mk (Kd.R_lower ho4 (below_size bH));replace HB:=Aside0.mk (below_step bH hb);clear hb ho4)|((with_reducible refine gate_builtin (b:=.append) (xs:=#[.tmp 3,.tmp 4]) rfl ?_);at_builtin;refine Kd.R_append_rows (Kd.int .i64) (w0:=w) w.heap.size rfl (.tmp 3) (.tmp 4) 22 3 (.int .i64 0) 8 rfl Try.underlying22 info3 rfl (by decide) (by first|decide|omega) v184 y183 l0 _ _ _ (fun _=>True) (fun _=>False) rfl rfl ?aO ?aR (fun _ _ h=>h) (fun _ h=>h.elim) ?aF ?aB ?aS ?aL ?_;(case aR=>exact sC HR0);(case aB=>exact bH);(case aF=>exact (fun _ _=>trivial));(case aO=>exact (rR HO185));(case aS=>exact (below_size bH));(case aL=>have:=LMc2.out;omega);intro v187 w5 ho hb hg hat;rw [← Ny186.out] at ho;have n0_:=Aside0.mk (hb);have n1_:=Aside0.mk (ho);clear HB;clear HO185;have HB:=n0_;have HO188:=n1_;clear n0_ n1_;clear ho hb hg hat))
  go_ret
  exact ⟨_,by first|rfl|(simp [errW_none,errW_some] <;> rfl)|(simp [*,errW_none,errW_some] <;> rfl),rR HO188,bH⟩
 ·rw [if_neg c2] at H
  exact absurd H (by simp)

end Go.Proofs.Ytlgnanbnicmdaab.QFnExactNormalClause
