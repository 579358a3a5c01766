-- Written by this session's own program (wip/x/xprint.py, over the kit's printer); Lean checks it.
import Derived.Test.YtlgnanbnicmdaaaQFnExactSameClausex0
import Derived.Test.YtlgnanbnicmdaaaQFnExactSameClausex2
namespace Go.Proofs.Ytlgnanbnicmdaaa.QFnExactSameClause
open Go.RowKit Go.Proofs.YtlgnanbnicmdaaaW.PrintWords Go.Proofs.YtlgnanbnicmdaaaW.PrintLast Go.Proofs.YtlgnanbnicmdaaaW.PrintMore
attribute [local go_sem] max2_int min2_int max_two min_two max_three min_three max_four min_four   -- for this text's walks alone
set_option linter.unusedVariables false
set_option linter.unusedSimpArgs false

/-! ### spec_l2Rename: function 110 -/
mutual
def spec_l2Rename.l0:Nat → List Int → List (List Int) → List (List Int) → Int → Int → Option ((List (List Int)))
 | 0,_,_,_,_,_=>none
 | k + 1,x3,x4,x12,x13,x14=>if x14 < x13 then (if 0 ≤ x14 then (if x14 < (x12.length:Int) then (spec_l2Rename.l1 k x3 x4 ([]:List Int) x12 x13 x14 (rd_L2 x12 x14) ((rd_L2 x12 x14).length:Int) 0) else (none)) else (none)) else (some x4)
def spec_l2Rename.l1:Nat → List Int → List (List Int) → List Int → List (List Int) → Int → Int → List Int → Int → Int → Option ((List (List Int)))
 | 0,_,_,_,_,_,_,_,_,_=>none
 | k + 1,x3,x4,x7,x12,x13,x14,x18,x19,x20=>if x20 < x19 then (if 0 ≤ x20 then (if x20 < (x18.length:Int) then (if (rd x18 x20) < 0 then ((spec_l1Has.f k x3 (rd x18 x20)).bind fun t140=>(spec_l2Rename.j2 k x3 x4 x7 (rd x18 x20) x12 x13 x14 x18 x19 x20 (!t140))) else (spec_l2Rename.j2 k x3 x4 x7 (rd x18 x20) x12 x13 x14 x18 x19 x20 false)) else (none)) else (none)) else (if x4.length < 5864062014805 then (spec_l2Rename.l0 k x3 (x4 ++ [x7]) x12 x13 (wrap64 (x14 + 1))) else (none))
def spec_l2Rename.j2:Nat → List Int → List (List Int) → List Int → Int → List (List Int) → Int → Int → List Int → Int → Int → Bool → Option ((List (List Int)))
 | 0,_,_,_,_,_,_,_,_,_,_,_=>none
 | k + 1,x3,x4,x7,x9,x12,x13,x14,x18,x19,x20,x31=>if x31 = true then (if x3.length < 17592186044416 then (spec_l2Rename.j3 k (x3 ++ [x9]) x4 x7 x9 x12 x13 x14 x18 x19 x20) else (none)) else (spec_l2Rename.j3 k x3 x4 x7 x9 x12 x13 x14 x18 x19 x20)
def spec_l2Rename.j3:Nat → List Int → List (List Int) → List Int → Int → List (List Int) → Int → Int → List Int → Int → Int → Option ((List (List Int)))
 | 0,_,_,_,_,_,_,_,_,_,_=>none
 | k + 1,x3,x4,x7,x9,x12,x13,x14,x18,x19,x20=>spec_l2Rename.l2 k x3 x4 x7 x9 x12 x13 x14 x18 x19 x20 x3 (x3.length:Int) 0
def spec_l2Rename.l2:Nat → List Int → List (List Int) → List Int → Int → List (List Int) → Int → Int → List Int → Int → Int → List Int → Int → Int → Option ((List (List Int)))
 | 0,_,_,_,_,_,_,_,_,_,_,_,_,_=>none
 | k + 1,x3,x4,x7,x9,x12,x13,x14,x18,x19,x20,x36,x37,x38=>if x38 < x37 then (if 0 ≤ x38 then (if x38 < (x36.length:Int) then (if (rd x36 x38) = x9 then (if x7.length < 17592186044416 then (spec_l2Rename.l1 k x3 x4 (x7 ++ [wrap64 ((-1) - x38)]) x12 x13 x14 x18 x19 (wrap64 (x20 + 1))) else (none)) else (spec_l2Rename.l2 k x3 x4 x7 x9 x12 x13 x14 x18 x19 x20 x36 x37 (wrap64 (x38 + 1)))) else (none)) else (none)) else (if x7.length < 17592186044416 then (spec_l2Rename.l1 k x3 x4 (x7 ++ [x9]) x12 x13 x14 x18 x19 (wrap64 (x20 + 1))) else (none))
end
def spec_l2Rename.f (k:Nat) (l0:List (List Int)):Option ((List (List Int))):=spec_l2Rename.l0 k ([]:List Int) ([]:List (List Int)) l0 (l0.length:Int) 0
theorem spec_l2Rename.mono_l:∀ k,(∀ y0 y1 y2 y3 y4,LeO (spec_l2Rename.l0 k y0 y1 y2 y3 y4) (spec_l2Rename.l0 (k + 1) y0 y1 y2 y3 y4)) ∧ (∀ y0 y1 y2 y3 y4 y5 y6 y7 y8,LeO (spec_l2Rename.l1 k y0 y1 y2 y3 y4 y5 y6 y7 y8) (spec_l2Rename.l1 (k + 1) y0 y1 y2 y3 y4 y5 y6 y7 y8)) ∧ (∀ y0 y1 y2 y3 y4 y5 y6 y7 y8 y9 y10,LeO (spec_l2Rename.j2 k y0 y1 y2 y3 y4 y5 y6 y7 y8 y9 y10) (spec_l2Rename.j2 (k + 1) y0 y1 y2 y3 y4 y5 y6 y7 y8 y9 y10)) ∧ (∀ y0 y1 y2 y3 y4 y5 y6 y7 y8 y9,LeO (spec_l2Rename.j3 k y0 y1 y2 y3 y4 y5 y6 y7 y8 y9) (spec_l2Rename.j3 (k + 1) y0 y1 y2 y3 y4 y5 y6 y7 y8 y9)) ∧ (∀ y0 y1 y2 y3 y4 y5 y6 y7 y8 y9 y10 y11 y12,LeO (spec_l2Rename.l2 k y0 y1 y2 y3 y4 y5 y6 y7 y8 y9 y10 y11 y12) (spec_l2Rename.l2 (k + 1) y0 y1 y2 y3 y4 y5 y6 y7 y8 y9 y10 y11 y12))
 | 0=>⟨fun _ _ _ _ _ r h=>by simp [spec_l2Rename.l0] at h,fun _ _ _ _ _ _ _ _ _ r h=>by simp [spec_l2Rename.l1] at h,fun _ _ _ _ _ _ _ _ _ _ _ r h=>by simp [spec_l2Rename.j2] at h,fun _ _ _ _ _ _ _ _ _ _ r h=>by simp [spec_l2Rename.j3] at h,fun _ _ _ _ _ _ _ _ _ _ _ _ _ r h=>by simp [spec_l2Rename.l2] at h⟩
 | k + 1=>by
  obtain ⟨ih0,ih1,ih2,ih3,ih4⟩:=spec_l2Rename.mono_l k
  refine ⟨?_,?_,?_,?_,?_⟩
  ·intro y0 y1 y2 y3 y4
   unfold spec_l2Rename.l0
   repeat' first
   | (with_reducible exact ih0 _ _ _ _ _)
   | (with_reducible exact ih1 _ _ _ _ _ _ _ _ _)
   | (with_reducible exact ih2 _ _ _ _ _ _ _ _ _ _ _)
   | (with_reducible exact ih3 _ _ _ _ _ _ _ _ _ _)
   | (with_reducible exact ih4 _ _ _ _ _ _ _ _ _ _ _ _ _)
   | (with_reducible exact spec_l1Has.mono _ _ _)
   | (with_reducible exact LeO.refl _)
   | (with_reducible exact LeO.none _)
   | (with_reducible refine LeO.ite ?_ ?_)
   | (with_reducible refine LeO.bind ?_ (fun _=>?_))
   | exact ih0 _ _ _ _ _
   | exact ih1 _ _ _ _ _ _ _ _ _
   | exact ih2 _ _ _ _ _ _ _ _ _ _ _
   | exact ih3 _ _ _ _ _ _ _ _ _ _
   | exact ih4 _ _ _ _ _ _ _ _ _ _ _ _ _
   | exact spec_l1Has.mono _ _ _
   | exact LeO.none _
   | refine LeO.ite ?_ ?_
   | refine LeO.bind ?_ (fun _=>?_)
  ·intro y0 y1 y2 y3 y4 y5 y6 y7 y8
   unfold spec_l2Rename.l1
   repeat' first
   | (with_reducible exact ih0 _ _ _ _ _)
   | (with_reducible exact ih1 _ _ _ _ _ _ _ _ _)
   | (with_reducible exact ih2 _ _ _ _ _ _ _ _ _ _ _)
   | (with_reducible exact ih3 _ _ _ _ _ _ _ _ _ _)
   | (with_reducible exact ih4 _ _ _ _ _ _ _ _ _ _ _ _ _)
   | (with_reducible exact spec_l1Has.mono _ _ _)
   | (with_reducible exact LeO.refl _)
   | (with_reducible exact LeO.none _)
   | (with_reducible refine LeO.ite ?_ ?_)
   | (with_reducible refine LeO.bind ?_ (fun _=>?_))
   | exact ih0 _ _ _ _ _
   | exact ih1 _ _ _ _ _ _ _ _ _
   | exact ih2 _ _ _ _ _ _ _ _ _ _ _
   | exact ih3 _ _ _ _ _ _ _ _ _ _
   | exact ih4 _ _ _ _ _ _ _ _ _ _ _ _ _
   | exact spec_l1Has.mono _ _ _
   | exact LeO.none _
   | refine LeO.ite ?_ ?_
   | refine LeO.bind ?_ (fun _=>?_)
  ·intro y0 y1 y2 y3 y4 y5 y6 y7 y8 y9 y10
   unfold spec_l2Rename.j2
   repeat' first
   | (with_reducible exact ih0 _ _ _ _ _)
   | (with_reducible exact ih1 _ _ _ _ _ _ _ _ _)
   | (with_reducible exact ih2 _ _ _ _ _ _ _ _ _ _ _)
   | (with_reducible exact ih3 _ _ _ _ _ _ _ _ _ _)
   | (with_reducible exact ih4 _ _ _ _ _ _ _ _ _ _ _ _ _)
   | (with_reducible exact spec_l1Has.mono _ _ _)
   | (with_reducible exact LeO.refl _)
   | (with_reducible exact LeO.none _)
   | (with_reducible refine LeO.ite ?_ ?_)
   | (with_reducible refine LeO.bind ?_ (fun _=>?_))
   | exact ih0 _ _ _ _ _
   | exact ih1 _ _ _ _ _ _ _ _ _
   | exact ih2 _ _ _ _ _ _ _ _ _ _ _
   | exact ih3 _ _ _ _ _ _ _ _ _ _
   | exact ih4 _ _ _ _ _ _ _ _ _ _ _ _ _
   | exact spec_l1Has.mono _ _ _
   | exact LeO.none _
   | refine LeO.ite ?_ ?_
   | refine LeO.bind ?_ (fun _=>?_)
  ·intro y0 y1 y2 y3 y4 y5 y6 y7 y8 y9
   unfold spec_l2Rename.j3
   repeat' first
   | (with_reducible exact ih0 _ _ _ _ _)
   | (with_reducible exact ih1 _ _ _ _ _ _ _ _ _)
   | (with_reducible exact ih2 _ _ _ _ _ _ _ _ _ _ _)
   | (with_reducible exact ih3 _ _ _ _ _ _ _ _ _ _)
   | (with_reducible exact ih4 _ _ _ _ _ _ _ _ _ _ _ _ _)
   | (with_reducible exact spec_l1Has.mono _ _ _)
   | (with_reducible exact LeO.refl _)
   | (with_reducible exact LeO.none _)
   | (with_reducible refine LeO.ite ?_ ?_)
   | (with_reducible refine LeO.bind ?_ (fun _=>?_))
   | exact ih0 _ _ _ _ _
   | exact ih1 _ _ _ _ _ _ _ _ _
   | exact ih2 _ _ _ _ _ _ _ _ _ _ _
   | exact ih3 _ _ _ _ _ _ _ _ _ _
   | exact ih4 _ _ _ _ _ _ _ _ _ _ _ _ _
   | exact spec_l1Has.mono _ _ _
   | exact LeO.none _
   | refine LeO.ite ?_ ?_
   | refine LeO.bind ?_ (fun _=>?_)
  ·intro y0 y1 y2 y3 y4 y5 y6 y7 y8 y9 y10 y11 y12
   unfold spec_l2Rename.l2
   repeat' first
   | (with_reducible exact ih0 _ _ _ _ _)
   | (with_reducible exact ih1 _ _ _ _ _ _ _ _ _)
   | (with_reducible exact ih2 _ _ _ _ _ _ _ _ _ _ _)
   | (with_reducible exact ih3 _ _ _ _ _ _ _ _ _ _)
   | (with_reducible exact ih4 _ _ _ _ _ _ _ _ _ _ _ _ _)
   | (with_reducible exact spec_l1Has.mono _ _ _)
   | (with_reducible exact LeO.refl _)
   | (with_reducible exact LeO.none _)
   | (with_reducible refine LeO.ite ?_ ?_)
   | (with_reducible refine LeO.bind ?_ (fun _=>?_))
   | exact ih0 _ _ _ _ _
   | exact ih1 _ _ _ _ _ _ _ _ _
   | exact ih2 _ _ _ _ _ _ _ _ _ _ _
   | exact ih3 _ _ _ _ _ _ _ _ _ _
   | exact ih4 _ _ _ _ _ _ _ _ _ _ _ _ _
   | exact spec_l1Has.mono _ _ _
   | exact LeO.none _
   | refine LeO.ite ?_ ?_
   | refine LeO.bind ?_ (fun _=>?_)
theorem spec_l2Rename.mono:∀ a0 k,LeO (spec_l2Rename.f k a0) (spec_l2Rename.f (k + 1) a0):=by
 intro a0 k
 obtain ⟨ih0,ih1,ih2,ih3,ih4⟩:=spec_l2Rename.mono_l k
 unfold spec_l2Rename.f
 repeat' first
   | (with_reducible exact ih0 _ _ _ _ _)
   | (with_reducible exact ih1 _ _ _ _ _ _ _ _ _)
   | (with_reducible exact ih2 _ _ _ _ _ _ _ _ _ _ _)
   | (with_reducible exact ih3 _ _ _ _ _ _ _ _ _ _)
   | (with_reducible exact ih4 _ _ _ _ _ _ _ _ _ _ _ _ _)
   | (with_reducible exact spec_l1Has.mono _ _ _)
   | (with_reducible exact LeO.refl _)
   | (with_reducible exact LeO.none _)
   | (with_reducible refine LeO.ite ?_ ?_)
   | (with_reducible refine LeO.bind ?_ (fun _=>?_))
   | exact ih0 _ _ _ _ _
   | exact ih1 _ _ _ _ _ _ _ _ _
   | exact ih2 _ _ _ _ _ _ _ _ _ _ _
   | exact ih3 _ _ _ _ _ _ _ _ _ _
   | exact ih4 _ _ _ _ _ _ _ _ _ _ _ _ _
   | exact spec_l1Has.mono _ _ _
   | exact LeO.none _
   | refine LeO.ite ?_ ?_
   | refine LeO.bind ?_ (fun _=>?_)
set_option maxHeartbeats 8000000 in
set_option maxRecDepth 100000 in
theorem spec_l2Rename.calls (k:Nat) (A0:Option Addr) (c0:Nat) (l0:List (List Int)) (r:List (List Int)) (w:World) (hr0:Kd.C (Kd.slice 3 (Kd.int .i64)) w A0 l0.length l0) (hc0:l0.length ≤ c0) (h:spec_l2Rename.f k l0 = some r) :
  Calls Try.prog 110 #[.slice A0 l0.length c0] w fun e w'=>∃ v0_:Value,e = .returned (v0_) ∧ Kd.S (Kd.slice 3 (Kd.int .i64)) 22 w' w.heap.size (fun _=>True) v0_ r ∧ Below w.heap.size w w':=by
 have HR0:=Aside0.mk hr0
 have HC0:=Aside0.mk hc0
 clear hr0 hc0
 have HB:=Aside0.mk (Below.refl w.heap.size w)
 have H:(spec_l2Rename.l0 k ([]:List Int) ([]:List (List Int)) l0 (l0.length:Int) 0) = some r:=h
 clear h
 have H':=Aside0.mk H
 clear H
 go_enter Try.func110,Try.ntmps110
 go_wp2
 go_loopg [3,4,14] k (fun kq v3 v4 v14 w'=>∃ (x3_1:List Int) (x4_1:List (List Int)) (x14_1:Int),v14 = .int .i64 x14_1 ∧ Aside0 (spec_l2Rename.l0 kq x3_1 x4_1 l0 (l0.length:Int) x14_1 = some r) ∧ Aside0 (kq ≤ k) ∧ Aside0 (Kd.R (Kd.int .i64) 3 w' w.heap.size (fun _=>True) v3 x3_1) ∧ Aside0 (Kd.S (Kd.slice 3 (Kd.int .i64)) 22 w' w.heap.size (fun k_=>some k_ ≠ (v3:Value).ownBlock) v4 x4_1) ∧ Aside0 (Below w.heap.size w w'))
 case atStart=>exact ⟨(([]:List Int)),(([]:List (List Int))),(0),(by first|rfl|(simp;done)|(simp [*];done)),H',⟨Nat.le_refl _⟩,⟨by first|exact Kd.R_nil _ _ _ _ _|exact Kd.N_nil _ _ _ _ _|exact Kd.V_nil _ _ _ _ _|exact Kd.Q_nil _ _ _ _ _|exact Kd.S_nil _ _ _ _ _⟩,⟨by first|exact Kd.S_nil _ _ _ _ _|exact Kd.N_nil _ _ _ _ _|exact Kd.V_nil _ _ _ _ _|exact Kd.Q_nil _ _ _ _ _|exact Kd.R_nil _ _ _ _ _⟩,⟨by repeat (first|(with_reducible first|exact HB.out|apply below_alloc|apply pw_below_drewN|apply below_drew1)|exact HB.out)⟩⟩
 case round =>
  clear H'
  try clear c1
  obtain ⟨x3_1,x4_1,x14_1,rfl,HA,HK1,HO_3,HO_4,HB⟩:=hrel
  cases gk with
  | zero=>exact absurd HA.out (by simp [spec_l2Rename.l0])
  | succ k1 =>
   have H:=HA.out
   clear HA
   simp only [spec_l2Rename.l0] at H
   by_cases c2:x14_1 < (l0.length:Int)
   ·rw [if_pos c2] at H
    have c2b0:decide (x14_1 < (l0.length:Int)) = true:=decide_eq_true c2
    clear c2
    by_cases c3:0 ≤ x14_1
    ·rw [if_pos c3] at H
     have c3b0:decide (0 ≤ x14_1) = true:=decide_eq_true c3
     clear c3
     by_cases c4:x14_1 < (l0.length:Int)
     ·rw [if_pos c4] at H
      have c4b0:decide (x14_1 < (l0.length:Int)) = true:=decide_eq_true c4
      clear c4
      have H':=Aside0.mk H
      clear H
      have p135:0 ≤ (x14_1:Int):=of_decide_eq_true (by first|(with_reducible assumption)|assumption)
      have q135:x14_1 < (l0.length:Int):=of_decide_eq_true (by first|(with_reducible assumption)|assumption)
      obtain ⟨ad135,A135_0,c135_0,e135,hx135_0,hl135_0,hi135_0⟩:=at_L2 HR0.out x14_1 p135 q135
      cases e135
      replace hx135_0:=(HB.out.cell (World.block_lt_of_cell? w _ hx135_0)).trans hx135_0
      have HR135_0:=Aside0.mk hi135_0
      have HC135_0:=Aside0.mk hl135_0
      clear hi135_0 hl135_0
      replace p135:=eq_true p135
      replace q135:=eq_true q135
      go_wp2
      go_loopg [3,7,20] k1 (fun kq v3 v7 v20 w'=>∃ (x3_2:List Int) (x7_2:List Int) (x20_2:Int),v20 = .int .i64 x20_2 ∧ Aside0 (spec_l2Rename.l1 kq x3_2 x4_1 x7_2 l0 (l0.length:Int) x14_1 (rd_L2 l0 x14_1) ((rd_L2 l0 x14_1).length:Int) x20_2 = some r) ∧ Aside0 (kq ≤ k1) ∧ Aside0 (Kd.R (Kd.int .i64) 3 w' w.heap.size (fun k_=>some k_ ≠ (v7:Value).ownBlock) v3 x3_2) ∧ Aside0 (Kd.S (Kd.slice 3 (Kd.int .i64)) 22 w' w.heap.size (fun k_=>some k_ ≠ (v3:Value).ownBlock ∧ some k_ ≠ (v7:Value).ownBlock) u4 x4_1) ∧ Aside0 (Kd.R (Kd.int .i64) 3 w' w.heap.size (fun k_=>some k_ ≠ (v3:Value).ownBlock) v7 x7_2) ∧ Aside0 (Below w.heap.size w w'))
      case atStart=>exact ⟨(x3_1),(([]:List Int)),(0),(by first|rfl|(simp;done)|(simp [*];done)),H',⟨Nat.le_refl _⟩,⟨by (with_reducible repeat (first|apply Kd.R_alloc|apply Kd.R_drewN|apply Kd.R_drew));exact Kd.R_mono HO_3.out (fun _ hk=>(by simp [Value.ownBlock]))⟩,⟨by (with_reducible repeat (first|apply Kd.S_alloc|apply Kd.S_drewN|apply Kd.S_drew));exact Kd.S_mono HO_4.out (fun _ hk=>⟨hk,(by simp [Value.ownBlock])⟩)⟩,⟨by first|exact Kd.R_nil _ _ _ _ _|exact Kd.N_nil _ _ _ _ _|exact Kd.V_nil _ _ _ _ _|exact Kd.Q_nil _ _ _ _ _|exact Kd.S_nil _ _ _ _ _⟩,⟨by repeat (first|(with_reducible first|exact HB.out|apply below_alloc|apply pw_below_drewN|apply below_drew1)|exact HB.out)⟩⟩
      case round =>
       clear H'
       try clear c1
       try clear p1
       try clear q1
       try clear hx1
       try clear c2
       try clear c2b0
       try clear p2
       try clear c3
       try clear c3b0
       try clear c4
       try clear c4b0
       try clear hx135_0
       try clear p135
       try clear q135
       obtain ⟨x3_2,x7_2,x20_2,rfl,HA,HK2,HO_3,HO_4,HO_7,HB⟩:=hrel
       cases gk with
       | zero=>exact absurd HA.out (by simp [spec_l2Rename.l1])
       | succ k2 =>
        have H:=HA.out
        clear HA
        simp only [spec_l2Rename.l1] at H
        by_cases c5:x20_2 < ((rd_L2 l0 x14_1).length:Int)
        ·rw [if_pos c5] at H
         have c5b0:decide (x20_2 < ((rd_L2 l0 x14_1).length:Int)) = true:=decide_eq_true c5
         clear c5
         by_cases c6:0 ≤ x20_2
         ·rw [if_pos c6] at H
          have c6b0:decide (0 ≤ x20_2) = true:=decide_eq_true c6
          clear c6
          by_cases c7:x20_2 < ((rd_L2 l0 x14_1).length:Int)
          ·rw [if_pos c7] at H
           have c7b0:decide (x20_2 < ((rd_L2 l0 x14_1).length:Int)) = true:=decide_eq_true c7
           clear c7
           have HC8:=Aside0.mk H
           clear H
           have p139:0 ≤ (x20_2:Int):=of_decide_eq_true (by first|(with_reducible assumption)|assumption)
           have q139:x20_2 < ((rd_L2 l0 x14_1).length:Int):=of_decide_eq_true (by first|(with_reducible assumption)|assumption)
           obtain ⟨ad139,e139,hx139_0⟩:=Kd.at_int HR135_0.out x20_2 p139 q139
           cases e139
           replace hx139_0:=(HB.out.cell (World.block_lt_of_cell? w _ hx139_0)).trans hx139_0
           replace p139:=eq_true p139
           replace q139:=eq_true q139
           go_upto_region 10 with (fail)
           go_cut [31] (fun v31 wc=>∃ (kq:Nat) (x31_7:Bool),v31 = .bool x31_7 ∧ Aside0 (spec_l2Rename.j2 kq x3_2 x4_1 x7_2 (rd (rd_L2 l0 x14_1) x20_2) l0 (l0.length:Int) x14_1 (rd_L2 l0 x14_1) ((rd_L2 l0 x14_1).length:Int) x20_2 x31_7 = some r) ∧ Aside0 (kq ≤ k2) ∧ Aside0 (Kd.R (Kd.int .i64) 3 wc w.heap.size (fun k_=>some k_ ≠ (u7:Value).ownBlock) u3 x3_2) ∧ Aside0 (Kd.S (Kd.slice 3 (Kd.int .i64)) 22 wc w.heap.size (fun k_=>some k_ ≠ (u3:Value).ownBlock ∧ some k_ ≠ (u7:Value).ownBlock) u4 x4_1) ∧ Aside0 (Kd.R (Kd.int .i64) 3 wc w.heap.size (fun k_=>some k_ ≠ (u3:Value).ownBlock) u7 x7_2) ∧ Aside0 (Below w.heap.size w wc))
           case first =>
            have H:=HC8.out
            clear HC8
            by_cases c9:(rd (rd_L2 l0 x14_1) x20_2) < 0
            ·rw [if_pos c9] at H
             have c9b0:decide ((rd (rd_L2 l0 x14_1) x20_2) < 0) = true:=decide_eq_true c9
             clear c9
             (first|rw [c9b0]|(simp only [i64_w,i32_w];rw [c9b0])|skip)
             replace H:=Option.bind_eq_some_iff.mp H
             obtain ⟨t140,A100,H⟩:=H
             replace H:(spec_l2Rename.j2 k2 x3_2 x4_1 x7_2 (rd (rd_L2 l0 x14_1) x20_2) l0 (l0.length:Int) x14_1 (rd_L2 l0 x14_1) ((rd_L2 l0 x14_1).length:Int) x20_2 (!t140)) = some r:=H
             have A10:=Aside0.mk A100
             clear A100
             have H':=Aside0.mk H
             clear H
             obtain ⟨Ao11,co11,eo11⟩:=Kd.R_slice HO_3.out
             subst eo11
             go_wp2_with (first|(go_at_call 133;(with_reducible refine (spec_l1Has.calls k2 _ _ x3_2 (rd (rd_L2 l0 x14_1) x20_2) t140 _ ?side1 ?side2 A10.out).mono ?_);(case side1=>repeat (first|exact (Kd.R_reads' HO_3.out).2.2|(with_reducible refine Kd.C_alloc ?_ _)|(with_reducible refine Kd.C_drewN ?_ _)|(with_reducible refine Kd.C_drew ?_)));(case side2=>exact (Kd.R_reads' HO_3.out).2.1);rintro e w' ⟨rfl,⟨nd,rfl⟩⟩))
             go_meet
             case rel=>exact ⟨_,(!t140),(by first|rfl|(simp;done)|(simp [*];done)),H',⟨by have:=HK1.out;have:=HK2.out;first|omega|exact Nat.le_refl _⟩,⟨by (with_reducible repeat (first|apply Kd.R_alloc|apply Kd.R_drewN|apply Kd.R_drew));exact HO_3.out⟩,⟨by (with_reducible repeat (first|apply Kd.S_alloc|apply Kd.S_drewN|apply Kd.S_drew));exact HO_4.out⟩,⟨by (with_reducible repeat (first|apply Kd.R_alloc|apply Kd.R_drewN|apply Kd.R_drew));exact HO_7.out⟩,⟨by repeat (first|(with_reducible first|exact HB.out|apply below_alloc|apply pw_below_drewN|apply below_drew1)|exact HB.out)⟩⟩
            ·rw [if_neg c9] at H
             have c9b0:decide ((rd (rd_L2 l0 x14_1) x20_2) < 0) = false:=decide_eq_false c9
             clear c9
             (first|rw [c9b0]|(simp only [i64_w,i32_w];rw [c9b0])|skip)
             have H':=Aside0.mk H
             clear H
             go_wp2
             go_meet
             case rel=>exact ⟨_,(false),(by first|rfl|(simp;done)|(simp [*];done)),H',⟨by have:=HK1.out;have:=HK2.out;first|omega|exact Nat.le_refl _⟩,⟨by (with_reducible repeat (first|apply Kd.R_alloc|apply Kd.R_drewN|apply Kd.R_drew));exact HO_3.out⟩,⟨by (with_reducible repeat (first|apply Kd.S_alloc|apply Kd.S_drewN|apply Kd.S_drew));exact HO_4.out⟩,⟨by (with_reducible repeat (first|apply Kd.R_alloc|apply Kd.R_drewN|apply Kd.R_drew));exact HO_7.out⟩,⟨by repeat (first|(with_reducible first|exact HB.out|apply below_alloc|apply pw_below_drewN|apply below_drew1)|exact HB.out)⟩⟩
           case rest =>
            clear HC8
            try clear c1
            try clear p1
            try clear q1
            try clear hx1
            try clear c2
            try clear c2b0
            try clear p2
            try clear c3
            try clear c3b0
            try clear c4
            try clear c4b0
            try clear c5
            try clear c5b0
            try clear c6
            try clear c6b0
            try clear c7
            try clear c7b0
            try clear c9
            try clear c9b0
            try clear c11
            try clear hx135_0
            try clear hx139_0
            try clear p1
            try clear p135
            try clear p139
            try clear p2
            try clear q1
            try clear q135
            try clear q139
            obtain ⟨kq,x31_7,rfl,HA,HJ7,HO_3,HO_4,HO_7,HB⟩:=hcut
            cases kq with
            | zero=>exact absurd HA.out (by simp [spec_l2Rename.j2])
            | succ kj7 =>
             have H:=HA.out
             clear HA
             simp only [spec_l2Rename.j2] at H
             have HC12:=Aside0.mk H
             clear H
             go_upto_if 31 with (fail)
             go_cut [3] (fun v3 wc=>∃ (kq:Nat) (x3_11:List Int),Aside0 (spec_l2Rename.j3 kq x3_11 x4_1 x7_2 (rd (rd_L2 l0 x14_1) x20_2) l0 (l0.length:Int) x14_1 (rd_L2 l0 x14_1) ((rd_L2 l0 x14_1).length:Int) x20_2 = some r) ∧ Aside0 (kq ≤ kj7) ∧ Aside0 (Kd.R (Kd.int .i64) 3 wc w.heap.size (fun k_=>some k_ ≠ (u7:Value).ownBlock) v3 x3_11) ∧ Aside0 (Kd.S (Kd.slice 3 (Kd.int .i64)) 22 wc w.heap.size (fun k_=>some k_ ≠ (v3:Value).ownBlock ∧ some k_ ≠ (u7:Value).ownBlock) u4 x4_1) ∧ Aside0 (Kd.R (Kd.int .i64) 3 wc w.heap.size (fun k_=>some k_ ≠ (v3:Value).ownBlock) u7 x7_2) ∧ Aside0 (Below w.heap.size w wc))
             case first =>
              have H:=HC12.out
              clear HC12
              by_cases c13:x31_7 = true
              ·subst c13
               have H1:(if x3_2.length < 17592186044416 then (spec_l2Rename.j3 kj7 (x3_2 ++ [(rd (rd_L2 l0 x14_1) x20_2)]) x4_1 x7_2 (rd (rd_L2 l0 x14_1) x20_2) l0 (l0.length:Int) x14_1 (rd_L2 l0 x14_1) ((rd_L2 l0 x14_1).length:Int) x20_2) else (none)) = some r:=by rw [if_pos rfl] at H;exact H
               clear H
               have H:=H1
               clear H1
               by_cases c14:x3_2.length < 17592186044416
               ·rw [if_pos c14] at H
                have LMc14:=Aside0.mk c14
                clear c14
                obtain ⟨y141,hy141⟩:∃ y_:List Int,y_ = (x3_2 ++ [(rd (rd_L2 l0 x14_1) x20_2)]):=⟨_,rfl⟩
                replace H:(spec_l2Rename.j3 kj7 y141 x4_1 x7_2 (rd (rd_L2 l0 x14_1) x20_2) l0 (l0.length:Int) x14_1 (rd_L2 l0 x14_1) ((rd_L2 l0 x14_1).length:Int) x20_2) = some r:=by first|(rw [hy141];with_reducible exact H)|(have H2_:=(Option.bind_some _ _).symm.trans H;rw [hy141];with_reducible exact H2_)|(have H2_:=(Option.bind_some _ _).symm.trans H;with_reducible exact H2_)|with_reducible exact H|(rw [hy141];exact H)|exact H
                have Ny141:=Aside0.mk hy141
                clear hy141
                have H':=Aside0.mk H
                clear H
                go_wp2_with (first|((with_reducible refine gate_builtin (b:=.append) (xs:=#[.tmp 32,.tmp 34]) rfl ?_);at_builtin;refine Kd.R_append (Kd.int .i64) (w0:=w) w.heap.size rfl (.tmp 32) (.tmp 34) 22 3 (.int .i64 0) 8 rfl Try.underlying22 info3 rfl (by decide) (by first|decide|omega) u3 x3_2 (rd (rd_L2 l0 x14_1) x20_2) [.int .i64 (rd (rd_L2 l0 x14_1) x20_2)] (fun k_=>some k_ ≠ (u7:Value).ownBlock) (fun _=>False) rfl rfl ?aP (fun _ hk=>hk.elim) ?aF ?aO ?aB ?aS ?aL ?_;(case aP=>exact rfl);(case aB=>exact (by repeat (first|(with_reducible first|exact HB.out|apply below_alloc|apply pw_below_drewN|apply below_drew1)|exact HB.out)));(case aF=>exact (fun k_ hk=>Kd.fresh' (Kd.R_lt (by (with_reducible repeat (first|apply Kd.R_alloc|apply Kd.R_drewN|apply Kd.R_drew));exact HO_7.out)) k_ hk));(case aO=>exact (by (with_reducible repeat (first|apply Kd.R_alloc|apply Kd.R_drewN|apply Kd.R_drew));exact HO_3.out));(case aS=>exact (below_size (by repeat (first|(with_reducible first|exact HB.out|apply below_alloc|apply pw_below_drewN|apply below_drew1)|exact HB.out))));(case aL=>have:=LMc14.out;omega);intro v142 w15 ho hb hg hat;rw [← Ny141.out] at ho;have n0_:=Aside0.mk (Kd.S_after (ok:=(fun k_=>some k_ ≠ (u7:Value).ownBlock)) (by (with_reducible repeat (first|apply Kd.S_alloc|apply Kd.S_drewN|apply Kd.S_drew));exact Kd.S_mono HO_4.out (fun _ hk=>⟨hk.2,hk.1⟩)) hg hat);have n1_:=Aside0.mk (Kd.R_after (ok:=(fun _=>True)) (by (with_reducible repeat (first|apply Kd.R_alloc|apply Kd.R_drewN|apply Kd.R_drew));exact Kd.R_mono HO_7.out (fun _ hk=>⟨trivial,hk⟩)) hg hat);have n2_:=Aside0.mk (hb);have n3_:=Aside0.mk (ho);clear HO_4;clear HO_7;clear HB;clear HO_3;have HO_4:=n0_;have HO_7:=n1_;have HB:=n2_;have HO143:=n3_;clear n0_ n1_ n2_ n3_;clear ho hb hg hat))
                go_meet
                case rel=>exact ⟨_,(y141),H',⟨by have:=HK1.out;have:=HK2.out;have:=HJ7.out;first|omega|exact Nat.le_refl _⟩,⟨by (with_reducible repeat (first|apply Kd.R_alloc|apply Kd.R_drewN|apply Kd.R_drew));exact HO143.out⟩,⟨by (with_reducible repeat (first|apply Kd.S_alloc|apply Kd.S_drewN|apply Kd.S_drew));exact Kd.S_mono HO_4.out (fun _ hk=>⟨hk.2,hk.1⟩)⟩,⟨by (with_reducible repeat (first|apply Kd.R_alloc|apply Kd.R_drewN|apply Kd.R_drew));exact Kd.R_mono HO_7.out (fun _ hk=>hk.2)⟩,⟨by repeat (first|(with_reducible first|exact HB.out|apply below_alloc|apply pw_below_drewN|apply below_drew1)|exact HB.out)⟩⟩
               ·rw [if_neg c14] at H
                exact absurd H (by simp)
              ·replace c13:=Bool.eq_false_iff.mpr c13
               subst c13
               have H1:(spec_l2Rename.j3 kj7 x3_2 x4_1 x7_2 (rd (rd_L2 l0 x14_1) x20_2) l0 (l0.length:Int) x14_1 (rd_L2 l0 x14_1) ((rd_L2 l0 x14_1).length:Int) x20_2) = some r:=by rw [if_neg (show ¬ (false = true) by decide)] at H;exact H
               clear H
               have H:=H1
               clear H1
               have H':=Aside0.mk H
               clear H
               go_wp2
               go_meet
               case rel=>exact ⟨_,(x3_2),H',⟨by have:=HK1.out;have:=HK2.out;have:=HJ7.out;first|omega|exact Nat.le_refl _⟩,⟨by (with_reducible repeat (first|apply Kd.R_alloc|apply Kd.R_drewN|apply Kd.R_drew));exact HO_3.out⟩,⟨by (with_reducible repeat (first|apply Kd.S_alloc|apply Kd.S_drewN|apply Kd.S_drew));exact HO_4.out⟩,⟨by (with_reducible repeat (first|apply Kd.R_alloc|apply Kd.R_drewN|apply Kd.R_drew));exact HO_7.out⟩,⟨by repeat (first|(with_reducible first|exact HB.out|apply below_alloc|apply pw_below_drewN|apply below_drew1)|exact HB.out)⟩⟩
             case rest =>
              clear HC12
              try clear c1
              try clear p1
              try clear q1
              try clear hx1
              try clear c2
              try clear c2b0
              try clear p2
              try clear c3
              try clear c3b0
              try clear c4
              try clear c4b0
              try clear c5
              try clear c5b0
              try clear c6
              try clear c6b0
              try clear c7
              try clear c7b0
              try clear c9
              try clear c9b0
              try clear c11
              try clear c13
              try clear p13
              try clear q13
              try clear hx13
              try clear c14
              try clear hx135_0
              try clear hx139_0
              try clear p1
              try clear p135
              try clear p139
              try clear p2
              try clear q1
              try clear q135
              try clear q139
              obtain ⟨kq,x3_11,HA,HJ11,HO_3,HO_4,HO_7,HB⟩:=hcut
              cases kq with
              | zero=>exact absurd HA.out (by simp [spec_l2Rename.j3])
              | succ kj11 =>
               have H:=HA.out
               clear HA
               simp only [spec_l2Rename.j3] at H
               have H':=Aside0.mk H
               clear H
               obtain ⟨Ao16,co16,eo16⟩:=Kd.R_slice HO_3.out
               subst eo16
               go_wp2
               go_loopg [9,38] kj11 (fun kq v9 v38 w'=>∃ (x9_5:Int) (x38_5:Int),v9 = .int .i64 x9_5 ∧ v38 = .int .i64 x38_5 ∧ Aside0 (spec_l2Rename.l2 kq x3_11 x4_1 x7_2 x9_5 l0 (l0.length:Int) x14_1 (rd_L2 l0 x14_1) ((rd_L2 l0 x14_1).length:Int) x20_2 x3_11 (x3_11.length:Int) x38_5 = some r) ∧ Aside0 (kq ≤ kj11) ∧ Aside0 (Kd.R (Kd.int .i64) 3 w' w.heap.size (fun k_=>some k_ ≠ (u7:Value).ownBlock) (.slice Ao16 x3_11.length co16) x3_11) ∧ Aside0 (Kd.S (Kd.slice 3 (Kd.int .i64)) 22 w' w.heap.size (fun k_=>some k_ ≠ ((.slice Ao16 x3_11.length co16):Value).ownBlock ∧ some k_ ≠ (u7:Value).ownBlock ∧ some k_ ≠ ((.slice Ao16 x3_11.length co16):Value).ownBlock) u4 x4_1) ∧ Aside0 (Kd.R (Kd.int .i64) 3 w' w.heap.size (fun k_=>some k_ ≠ ((.slice Ao16 x3_11.length co16):Value).ownBlock ∧ some k_ ≠ ((.slice Ao16 x3_11.length co16):Value).ownBlock) u7 x7_2) ∧ Aside0 (Kd.R (Kd.int .i64) 3 w' w.heap.size (fun k_=>some k_ ≠ (u7:Value).ownBlock) (.slice Ao16 x3_11.length co16) x3_11) ∧ Aside0 (Below w.heap.size w w'))
               case atStart=>exact ⟨((rd (rd_L2 l0 x14_1) x20_2)),(0),(by first|rfl|(simp;done)|(simp [*];done)),(by first|rfl|(simp;done)|(simp [*];done)),H',⟨Nat.le_refl _⟩,⟨by (with_reducible repeat (first|apply Kd.R_alloc|apply Kd.R_drewN|apply Kd.R_drew));exact HO_3.out⟩,⟨by (with_reducible repeat (first|apply Kd.S_alloc|apply Kd.S_drewN|apply Kd.S_drew));exact Kd.S_mono HO_4.out (fun _ hk=>⟨hk.1,⟨hk.2,hk.1⟩⟩)⟩,⟨by (with_reducible repeat (first|apply Kd.R_alloc|apply Kd.R_drewN|apply Kd.R_drew));exact Kd.R_mono HO_7.out (fun _ hk=>⟨hk,hk⟩)⟩,⟨by (with_reducible repeat (first|apply Kd.R_alloc|apply Kd.R_drewN|apply Kd.R_drew));exact HO_3.out⟩,⟨by repeat (first|(with_reducible first|exact HB.out|apply below_alloc|apply pw_below_drewN|apply below_drew1)|exact HB.out)⟩⟩
               case round =>
                clear H'
                try clear c1
                try clear p1
                try clear q1
                try clear hx1
                try clear c2
                try clear c2b0
                try clear p2
                try clear c3
                try clear c3b0
                try clear c4
                try clear c4b0
                try clear c5
                try clear c5b0
                try clear c6
                try clear c6b0
                try clear c7
                try clear c7b0
                try clear c9
                try clear c9b0
                try clear c11
                try clear c13
                try clear p13
                try clear q13
                try clear hx13
                try clear c14
                try clear hx135_0
                try clear hx139_0
                try clear p1
                try clear p13
                try clear p135
                try clear p139
                try clear p2
                try clear q1
                try clear q13
                try clear q135
                try clear q139
                obtain ⟨x9_5,x38_5,rfl,rfl,HA,HK5,HO_3,HO_4,HO_7,HO_36,HB⟩:=hrel
                cases gk with
                | zero=>exact absurd HA.out (by simp [spec_l2Rename.l2])
                | succ k5 =>
                 have H:=HA.out
                 clear HA
                 simp only [spec_l2Rename.l2] at H
                 by_cases c17:x38_5 < (x3_11.length:Int)
                 ·rw [if_pos c17] at H
                  have c17b0:decide (x38_5 < (x3_11.length:Int)) = true:=decide_eq_true c17
                  clear c17
                  by_cases c18:0 ≤ x38_5
                  ·rw [if_pos c18] at H
                   have c18b0:decide (0 ≤ x38_5) = true:=decide_eq_true c18
                   clear c18
                   by_cases c19:x38_5 < (x3_11.length:Int)
                   ·rw [if_pos c19] at H
                    have c19b0:decide (x38_5 < (x3_11.length:Int)) = true:=decide_eq_true c19
                    clear c19
                    by_cases c20:(rd x3_11 x38_5) = x9_5
                    ·rw [if_pos c20] at H
                     have c20b0:((rd x3_11 x38_5) == x9_5) = true:=beq_iff_eq.mpr c20
                     have c20b1:((rd x3_11 x38_5) != x9_5) = false:=bne_eq_false_iff_eq.mpr c20
                     clear c20
                     by_cases c21:x7_2.length < 17592186044416
                     ·rw [if_pos c21] at H
                      have LMc21:=Aside0.mk c21
                      clear c21
                      obtain ⟨y145,hy145⟩:∃ y_:List Int,y_ = (x7_2 ++ [wrap64 ((-1) - x38_5)]):=⟨_,rfl⟩
                      replace H:(spec_l2Rename.l1 k5 x3_11 x4_1 y145 l0 (l0.length:Int) x14_1 (rd_L2 l0 x14_1) ((rd_L2 l0 x14_1).length:Int) (wrap64 (x20_2 + 1))) = some r:=by first|(rw [hy145];with_reducible exact H)|(have H2_:=(Option.bind_some _ _).symm.trans H;rw [hy145];with_reducible exact H2_)|(have H2_:=(Option.bind_some _ _).symm.trans H;with_reducible exact H2_)|with_reducible exact H|(rw [hy145];exact H)|exact H
                      have Ny145:=Aside0.mk hy145
                      clear hy145
                      have H':=Aside0.mk H
                      clear H
                      have p144:0 ≤ (x38_5:Int):=of_decide_eq_true (by first|(with_reducible assumption)|assumption)
                      have q144:x38_5 < (x3_11.length:Int):=of_decide_eq_true (by first|(with_reducible assumption)|assumption)
                      obtain ⟨ad144,e144,hx144_0⟩:=Kd.at_int (Kd.R_reads' HO_36.out).2.2 x38_5 p144 q144
                      cases e144
                      replace p144:=eq_true p144
                      replace q144:=eq_true q144
                      go_wp2_with (first|((with_reducible refine gate_builtin (b:=.append) (xs:=#[.tmp 49,.tmp 51]) rfl ?_);at_builtin;refine Kd.R_append (Kd.int .i64) (w0:=w) w.heap.size rfl (.tmp 49) (.tmp 51) 22 3 (.int .i64 0) 8 rfl Try.underlying22 info3 rfl (by decide) (by first|decide|omega) u7 x7_2 (wrap64 ((-1) - x38_5)) [.int .i64 (wrap64 ((-1) - x38_5))] (fun k_=>some k_ ≠ (.slice (some ad144) x3_11.length co16:Value).ownBlock ∧ some k_ ≠ (.slice (some ad144) x3_11.length co16:Value).ownBlock) (fun _=>False) rfl rfl ?aP (fun _ hk=>hk.elim) ?aF ?aO ?aB ?aS ?aL ?_;(case aP=>exact rfl);(case aB=>exact (by repeat (first|(with_reducible first|exact HB.out|apply below_alloc|apply pw_below_drewN|apply below_drew1)|exact HB.out)));(case aF=>exact (fun k_ hk=>⟨Kd.fresh' (Kd.R_lt (by (with_reducible repeat (first|apply Kd.R_alloc|apply Kd.R_drewN|apply Kd.R_drew));exact HO_3.out)) k_ hk,Kd.fresh' (Kd.R_lt (by (with_reducible repeat (first|apply Kd.R_alloc|apply Kd.R_drewN|apply Kd.R_drew));exact HO_36.out)) k_ hk⟩));(case aO=>exact (by (with_reducible repeat (first|apply Kd.R_alloc|apply Kd.R_drewN|apply Kd.R_drew));exact HO_7.out));(case aS=>exact (below_size (by repeat (first|(with_reducible first|exact HB.out|apply below_alloc|apply pw_below_drewN|apply below_drew1)|exact HB.out))));(case aL=>have:=LMc21.out;omega);intro v146 w22 ho hb hg hat;rw [← Ny145.out] at ho;have n0_:=Aside0.mk (Kd.R_after (ok:=(fun _=>True)) (by (with_reducible repeat (first|apply Kd.R_alloc|apply Kd.R_drewN|apply Kd.R_drew));exact Kd.R_mono HO_3.out (fun _ hk=>⟨trivial,hk⟩)) hg hat);have n1_:=Aside0.mk (Kd.S_after (ok:=(fun k_=>some k_ ≠ (.slice (some ad144) x3_11.length co16:Value).ownBlock ∧ some k_ ≠ (.slice (some ad144) x3_11.length co16:Value).ownBlock)) (by (with_reducible repeat (first|apply Kd.S_alloc|apply Kd.S_drewN|apply Kd.S_drew));exact Kd.S_mono HO_4.out (fun _ hk=>⟨⟨hk.1,hk.2.2⟩,hk.2.1⟩)) hg hat);have n2_:=Aside0.mk (Kd.R_after (ok:=(fun _=>True)) (by (with_reducible repeat (first|apply Kd.R_alloc|apply Kd.R_drewN|apply Kd.R_drew));exact Kd.R_mono HO_36.out (fun _ hk=>⟨trivial,hk⟩)) hg hat);have n3_:=Aside0.mk (hb);have n4_:=Aside0.mk (ho);clear HO_3;clear HO_4;clear HO_36;clear HB;clear HO_7;have HO_3:=n0_;have HO_4:=n1_;have HO_36:=n2_;have HB:=n3_;have HO147:=n4_;clear n0_ n1_ n2_ n3_ n4_;clear ho hb hg hat))
                      go_roundg k5
                      case measure=>have:=HK1.out;have:=HK2.out;have:=HJ7.out;have:=HJ11.out;have:=HK5.out;omega
                      case rel=>exact ⟨(x3_11),(y145),(wrap64 (x20_2 + 1)),(by first|rfl|(simp;done)|(simp [*];done)),H',⟨by have:=HK1.out;have:=HK2.out;have:=HJ7.out;have:=HJ11.out;have:=HK5.out;omega⟩,⟨by (with_reducible repeat (first|apply Kd.R_alloc|apply Kd.R_drewN|apply Kd.R_drew));exact Kd.R_mono HO_3.out (fun _ hk=>hk.2)⟩,⟨by (with_reducible repeat (first|apply Kd.S_alloc|apply Kd.S_drewN|apply Kd.S_drew));exact Kd.S_mono HO_4.out (fun _ hk=>⟨hk.1.1,hk.2⟩)⟩,⟨by (with_reducible repeat (first|apply Kd.R_alloc|apply Kd.R_drewN|apply Kd.R_drew));exact Kd.R_mono HO147.out (fun _ hk=>hk.1)⟩,⟨by repeat (first|(with_reducible first|exact HB.out|apply below_alloc|apply pw_below_drewN|apply below_drew1)|exact HB.out)⟩⟩
                     ·rw [if_neg c21] at H
                      exact absurd H (by simp)
                    ·rw [if_neg c20] at H
                     have c20b0:((rd x3_11 x38_5) == x9_5) = false:=beq_eq_false_iff_ne.mpr c20
                     have c20b1:((rd x3_11 x38_5) != x9_5) = true:=bne_iff_ne.mpr c20
                     have H':=Aside0.mk H
                     clear H
                     have p144:0 ≤ (x38_5:Int):=of_decide_eq_true (by first|(with_reducible assumption)|assumption)
                     have q144:x38_5 < (x3_11.length:Int):=of_decide_eq_true (by first|(with_reducible assumption)|assumption)
                     obtain ⟨ad144,e144,hx144_0⟩:=Kd.at_int (Kd.R_reads' HO_36.out).2.2 x38_5 p144 q144
                     cases e144
                     replace p144:=eq_true p144
                     replace q144:=eq_true q144
                     go_wp2
                     go_roundg k5
                     case measure=>have:=HK1.out;have:=HK2.out;have:=HJ7.out;have:=HJ11.out;have:=HK5.out;omega
                     case rel=>exact ⟨(x9_5),(wrap64 (x38_5 + 1)),(by first|rfl|(simp;done)|(simp [*];done)),(by first|rfl|(simp;done)|(simp [*];done)),H',⟨by have:=HK1.out;have:=HK2.out;have:=HJ7.out;have:=HJ11.out;have:=HK5.out;omega⟩,⟨by (with_reducible repeat (first|apply Kd.R_alloc|apply Kd.R_drewN|apply Kd.R_drew));exact HO_3.out⟩,⟨by (with_reducible repeat (first|apply Kd.S_alloc|apply Kd.S_drewN|apply Kd.S_drew));exact HO_4.out⟩,⟨by (with_reducible repeat (first|apply Kd.R_alloc|apply Kd.R_drewN|apply Kd.R_drew));exact HO_7.out⟩,⟨by (with_reducible repeat (first|apply Kd.R_alloc|apply Kd.R_drewN|apply Kd.R_drew));exact HO_36.out⟩,⟨by repeat (first|(with_reducible first|exact HB.out|apply below_alloc|apply pw_below_drewN|apply below_drew1)|exact HB.out)⟩⟩
                   ·rw [if_neg c19] at H
                    exact absurd H (by simp)
                  ·rw [if_neg c18] at H
                   exact absurd H (by simp)
                 ·rw [if_neg c17] at H
                  have c17b0:decide (x38_5 < (x3_11.length:Int)) = false:=decide_eq_false c17
                  clear c17
                  by_cases c23:x7_2.length < 17592186044416
                  ·rw [if_pos c23] at H
                   have LMc23:=Aside0.mk c23
                   clear c23
                   obtain ⟨y148,hy148⟩:∃ y_:List Int,y_ = (x7_2 ++ [x9_5]):=⟨_,rfl⟩
                   replace H:(spec_l2Rename.l1 k5 x3_11 x4_1 y148 l0 (l0.length:Int) x14_1 (rd_L2 l0 x14_1) ((rd_L2 l0 x14_1).length:Int) (wrap64 (x20_2 + 1))) = some r:=by first|(rw [hy148];with_reducible exact H)|(have H2_:=(Option.bind_some _ _).symm.trans H;rw [hy148];with_reducible exact H2_)|(have H2_:=(Option.bind_some _ _).symm.trans H;with_reducible exact H2_)|with_reducible exact H|(rw [hy148];exact H)|exact H
                   have Ny148:=Aside0.mk hy148
                   clear hy148
                   have H':=Aside0.mk H
                   clear H
                   go_wp2_with (first|((with_reducible refine gate_builtin (b:=.append) (xs:=#[.tmp 49,.tmp 51]) rfl ?_);at_builtin;refine Kd.R_append (Kd.int .i64) (w0:=w) w.heap.size rfl (.tmp 49) (.tmp 51) 22 3 (.int .i64 0) 8 rfl Try.underlying22 info3 rfl (by decide) (by first|decide|omega) u7 x7_2 x9_5 [.int .i64 x9_5] (fun k_=>some k_ ≠ (.slice Ao16 x3_11.length co16:Value).ownBlock ∧ some k_ ≠ (.slice Ao16 x3_11.length co16:Value).ownBlock) (fun _=>False) rfl rfl ?aP (fun _ hk=>hk.elim) ?aF ?aO ?aB ?aS ?aL ?_;(case aP=>exact rfl);(case aB=>exact (by repeat (first|(with_reducible first|exact HB.out|apply below_alloc|apply pw_below_drewN|apply below_drew1)|exact HB.out)));(case aF=>exact (fun k_ hk=>⟨Kd.fresh' (Kd.R_lt (by (with_reducible repeat (first|apply Kd.R_alloc|apply Kd.R_drewN|apply Kd.R_drew));exact HO_3.out)) k_ hk,Kd.fresh' (Kd.R_lt (by (with_reducible repeat (first|apply Kd.R_alloc|apply Kd.R_drewN|apply Kd.R_drew));exact HO_36.out)) k_ hk⟩));(case aO=>exact (by (with_reducible repeat (first|apply Kd.R_alloc|apply Kd.R_drewN|apply Kd.R_drew));exact HO_7.out));(case aS=>exact (below_size (by repeat (first|(with_reducible first|exact HB.out|apply below_alloc|apply pw_below_drewN|apply below_drew1)|exact HB.out))));(case aL=>have:=LMc23.out;omega);intro v149 w24 ho hb hg hat;rw [← Ny148.out] at ho;have n0_:=Aside0.mk (Kd.R_after (ok:=(fun _=>True)) (by (with_reducible repeat (first|apply Kd.R_alloc|apply Kd.R_drewN|apply Kd.R_drew));exact Kd.R_mono HO_3.out (fun _ hk=>⟨trivial,hk⟩)) hg hat);have n1_:=Aside0.mk (Kd.S_after (ok:=(fun k_=>some k_ ≠ (.slice Ao16 x3_11.length co16:Value).ownBlock ∧ some k_ ≠ (.slice Ao16 x3_11.length co16:Value).ownBlock)) (by (with_reducible repeat (first|apply Kd.S_alloc|apply Kd.S_drewN|apply Kd.S_drew));exact Kd.S_mono HO_4.out (fun _ hk=>⟨⟨hk.1,hk.2.2⟩,hk.2.1⟩)) hg hat);have n2_:=Aside0.mk (Kd.R_after (ok:=(fun _=>True)) (by (with_reducible repeat (first|apply Kd.R_alloc|apply Kd.R_drewN|apply Kd.R_drew));exact Kd.R_mono HO_36.out (fun _ hk=>⟨trivial,hk⟩)) hg hat);have n3_:=Aside0.mk (hb);have n4_:=Aside0.mk (ho);clear HO_3;clear HO_4;clear HO_36;clear HB;clear HO_7;have HO_3:=n0_;have HO_4:=n1_;have HO_36:=n2_;have HB:=n3_;have HO150:=n4_;clear n0_ n1_ n2_ n3_ n4_;clear ho hb hg hat))
                   go_roundg k5
                   case measure=>have:=HK1.out;have:=HK2.out;have:=HJ7.out;have:=HJ11.out;have:=HK5.out;omega
                   case rel=>exact ⟨(x3_11),(y148),(wrap64 (x20_2 + 1)),(by first|rfl|(simp;done)|(simp [*];done)),H',⟨by have:=HK1.out;have:=HK2.out;have:=HJ7.out;have:=HJ11.out;have:=HK5.out;omega⟩,⟨by (with_reducible repeat (first|apply Kd.R_alloc|apply Kd.R_drewN|apply Kd.R_drew));exact Kd.R_mono HO_3.out (fun _ hk=>hk.2)⟩,⟨by (with_reducible repeat (first|apply Kd.S_alloc|apply Kd.S_drewN|apply Kd.S_drew));exact Kd.S_mono HO_4.out (fun _ hk=>⟨hk.1.1,hk.2⟩)⟩,⟨by (with_reducible repeat (first|apply Kd.R_alloc|apply Kd.R_drewN|apply Kd.R_drew));exact Kd.R_mono HO150.out (fun _ hk=>hk.1)⟩,⟨by repeat (first|(with_reducible first|exact HB.out|apply below_alloc|apply pw_below_drewN|apply below_drew1)|exact HB.out)⟩⟩
                  ·rw [if_neg c23] at H
                   exact absurd H (by simp)
          ·rw [if_neg c7] at H
           exact absurd H (by simp)
         ·rw [if_neg c6] at H
          exact absurd H (by simp)
        ·rw [if_neg c5] at H
         have c5b0:decide (x20_2 < ((rd_L2 l0 x14_1).length:Int)) = false:=decide_eq_false c5
         clear c5
         by_cases c25:x4_1.length < 5864062014805
         ·rw [if_pos c25] at H
          have LMc25:=Aside0.mk c25
          clear c25
          obtain ⟨y136,hy136⟩:∃ y_:List (List Int),y_ = (x4_1 ++ [x7_2]):=⟨_,rfl⟩
          replace H:(spec_l2Rename.l0 k2 x3_2 y136 l0 (l0.length:Int) (wrap64 (x14_1 + 1))) = some r:=by first|(rw [hy136];with_reducible exact H)|(have H2_:=(Option.bind_some _ _).symm.trans H;rw [hy136];with_reducible exact H2_)|(have H2_:=(Option.bind_some _ _).symm.trans H;with_reducible exact H2_)|with_reducible exact H|(rw [hy136];exact H)|exact H
          have Ny136:=Aside0.mk hy136
          clear hy136
          have H':=Aside0.mk H
          clear H
          obtain ⟨Ao27,co27,eo27⟩:=Kd.R_slice HO_7.out
          subst eo27
          go_wp2_with (first|((with_reducible refine gate_builtin (b:=.append) (xs:=#[.tmp 54,.tmp 56]) rfl ?_);at_builtin;refine Kd.S_append (Kd.slice 3 (Kd.int .i64)) (w0:=w) w.heap.size rfl (.tmp 54) (.tmp 56) 52 22 (.slice none 0 0) 24 rfl Try.underlying52 info22 rfl (by decide) (by first|decide|omega) u4 x4_1 x7_2 [.slice Ao27 x7_2.length co27] (fun k_=>some k_ ≠ (u3:Value).ownBlock) (fun k_=>some k_ = (.slice Ao27 x7_2.length co27:Value).ownBlock) rfl rfl ?aP (fun k_ hk_=>((Kd.R_mono (ok':=fun k_=>((fun k_=>some k_ ≠ (u3:Value).ownBlock)) k_ ∧ some k_ ≠ (u4:Value).ownBlock) (Kd.R_apart' (HO_7.out) (Kd.S_typed HO_4.out) (by decide)) (fun k_ hk=>⟨hk.1,hk.2⟩))).1 k_ hk_.symm) ?aF ?aO ?aB ?aS ?aL ?_;(case aP=>exact Kd.M_row (Kd.R_mono (Kd.R_tight rfl (Kd.R_mono (ok':=fun k_=>((fun k_=>some k_ ≠ (u3:Value).ownBlock)) k_ ∧ some k_ ≠ (u4:Value).ownBlock) (Kd.R_apart' (HO_7.out) (Kd.S_typed HO_4.out) (by decide)) (fun k_ hk=>⟨hk.1,hk.2⟩))) (fun _ h_=>h_)));(case aB=>exact (by repeat (first|(with_reducible first|exact HB.out|apply below_alloc|apply pw_below_drewN|apply below_drew1)|exact HB.out)));(case aF=>exact (fun k_ hk=>Kd.fresh' (Kd.R_lt (by (with_reducible repeat (first|apply Kd.R_alloc|apply Kd.R_drewN|apply Kd.R_drew));exact HO_3.out)) k_ hk));(case aO=>exact (by (with_reducible repeat (first|apply Kd.S_alloc|apply Kd.S_drewN|apply Kd.S_drew));exact Kd.S_mono HO_4.out (fun k_ hk=>⟨hk.1,fun e_=>hk.2 e_⟩)));(case aS=>exact (below_size (by repeat (first|(with_reducible first|exact HB.out|apply below_alloc|apply pw_below_drewN|apply below_drew1)|exact HB.out))));(case aL=>have:=LMc25.out;omega);intro v137 w26 ho hb hg hat;rw [← Ny136.out] at ho;have n0_:=Aside0.mk (Kd.R_over' (by (with_reducible repeat (first|apply Kd.R_alloc|apply Kd.R_drewN|apply Kd.R_drew));exact HO_3.out) (Kd.S_typed (by (with_reducible repeat (first|apply Kd.S_alloc|apply Kd.S_drewN|apply Kd.S_drew));exact HO_4.out)) (by decide) hg);have n1_:=Aside0.mk (hb);have n2_:=Aside0.mk (ho);clear HO_3;clear HB;clear HO_4;clear HO_7;have HO_3:=n0_;have HB:=n1_;have HO138:=n2_;clear n0_ n1_ n2_;clear ho hb hg hat))
          go_roundg k2
          case measure=>have:=HK1.out;have:=HK2.out;omega
          case rel=>exact ⟨(x3_2),(y136),(wrap64 (x14_1 + 1)),(by first|rfl|(simp;done)|(simp [*];done)),H',⟨by have:=HK1.out;have:=HK2.out;omega⟩,⟨by (with_reducible repeat (first|apply Kd.R_alloc|apply Kd.R_drewN|apply Kd.R_drew));exact Kd.R_mono HO_3.out (fun _ hk=>trivial)⟩,⟨by (with_reducible repeat (first|apply Kd.S_alloc|apply Kd.S_drewN|apply Kd.S_drew));exact HO138.out⟩,⟨by repeat (first|(with_reducible first|exact HB.out|apply below_alloc|apply pw_below_drewN|apply below_drew1)|exact HB.out)⟩⟩
         ·rw [if_neg c25] at H
          exact absurd H (by simp)
     ·rw [if_neg c4] at H
      exact absurd H (by simp)
    ·rw [if_neg c3] at H
     exact absurd H (by simp)
   ·rw [if_neg c2] at H
    have c2b0:decide (x14_1 < (l0.length:Int)) = false:=decide_eq_false c2
    clear c2
    obtain rfl:=Option.some.inj H
    go_wp2
    go_ret
    exact ⟨_,by first|rfl|(simp [errW_none,errW_some] <;> rfl)|(simp [*,errW_none,errW_some] <;> rfl),by (with_reducible repeat (first|apply Kd.S_alloc|apply Kd.S_drewN|apply Kd.S_drew));exact Kd.S_mono HO_4.out (fun _ hk=>trivial),by repeat (first|(with_reducible first|exact HB.out|apply below_alloc|apply pw_below_drewN|apply below_drew1)|exact HB.out)⟩

end Go.Proofs.Ytlgnanbnicmdaaa.QFnExactSameClause
