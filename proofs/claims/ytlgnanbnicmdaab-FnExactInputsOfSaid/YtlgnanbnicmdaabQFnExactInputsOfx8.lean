-- Written by this session's own program (wip/x/xprint.py, over the kit's printer); Lean checks it.
import Derived.Test.YtlgnanbnicmdaabQFnExactInputsOfx0
import Derived.Test.YtlgnanbnicmdaabQFnExactInputsOfx7
namespace Go.Proofs.Ytlgnanbnicmdaab.QFnExactInputsOf
open Go.RowKit Go.Proofs.YtlgnanbnicmdaabW.PrintWords Go.Proofs.YtlgnanbnicmdaabW.PrintLast Go.Proofs.YtlgnanbnicmdaabW.PrintMore
attribute [local go_sem] max2_int min2_int max_two min_two max_three min_three max_four min_four   -- for this text's walks alone
set_option linter.unusedVariables false
set_option linter.unusedSimpArgs false

/-! ### laws_eqStepS: function 34 -/
def laws_eqStepS.l0:Nat → List (S81) → List (S81) → Int → Option (Bool)
 | 0,_,_,_=>none
 | k + 1,x0,x1,x5=>if x5 < (x0.length:Int) then (if 0 ≤ x5 then (if x5 < (x1.length:Int) then ((laws_eqStep.f k ((rd_T81 x0 x5).f0) ((rd_T81 x0 x5).f1) ((rd_T81 x0 x5).f2) ((rd_T81 x0 x5).f3) ((rd_T81 x1 x5).f0) ((rd_T81 x1 x5).f1) ((rd_T81 x1 x5).f2) ((rd_T81 x1 x5).f3)).bind fun t317=>(if t317 = true then (laws_eqStepS.l0 k x0 x1 (wrap64 (x5 + 1))) else (some false))) else (none)) else (none)) else (some true)
def laws_eqStepS.f (k:Nat) (l0:List (S81)) (l1:List (S81)):Option (Bool):=if (l0.length:Int) = (l1.length:Int) then (laws_eqStepS.l0 k l0 l1 0) else (some false)
theorem laws_eqStepS.mono_l:∀ k,(∀ y0 y1 y2,LeO (laws_eqStepS.l0 k y0 y1 y2) (laws_eqStepS.l0 (k + 1) y0 y1 y2))
 | 0=>fun _ _ _ r h=>by simp [laws_eqStepS.l0] at h
 | k + 1=>by
  have ih0:=laws_eqStepS.mono_l k
  ·intro y0 y1 y2
   unfold laws_eqStepS.l0
   repeat' first
   | (with_reducible exact ih0 _ _ _)
   | (with_reducible exact laws_eqStep.mono _ _ _ _ _ _ _ _ _)
   | (with_reducible exact LeO.refl _)
   | (with_reducible exact LeO.none _)
   | (with_reducible refine LeO.ite ?_ ?_)
   | (with_reducible refine LeO.bind ?_ (fun _=>?_))
   | exact ih0 _ _ _
   | exact laws_eqStep.mono _ _ _ _ _ _ _ _ _
   | exact LeO.none _
   | refine LeO.ite ?_ ?_
   | refine LeO.bind ?_ (fun _=>?_)
theorem laws_eqStepS.mono:∀ a0 a1 k,LeO (laws_eqStepS.f k a0 a1) (laws_eqStepS.f (k + 1) a0 a1):=by
 intro a0 a1 k
 have ih0:=laws_eqStepS.mono_l k
 unfold laws_eqStepS.f
 repeat' first
   | (with_reducible exact ih0 _ _ _)
   | (with_reducible exact laws_eqStep.mono _ _ _ _ _ _ _ _ _)
   | (with_reducible exact LeO.refl _)
   | (with_reducible exact LeO.none _)
   | (with_reducible refine LeO.ite ?_ ?_)
   | (with_reducible refine LeO.bind ?_ (fun _=>?_))
   | exact ih0 _ _ _
   | exact laws_eqStep.mono _ _ _ _ _ _ _ _ _
   | exact LeO.none _
   | refine LeO.ite ?_ ?_
   | refine LeO.bind ?_ (fun _=>?_)
def laws_eqStepS.T6:Bool × List (List Nat × List Nat):=(true,[([],[]),([],[]),([0,1],[0,1]),([2],[2]),([],[]),([],[]),([4,5],[4,5]),([6],[6]),([3,7],[3,7]),([8],[8])])
def laws_eqStepS.B6:List Nat:=[0,0,3,7,0,0,48,112,255,511]
theorem laws_eqStepS.tab6:rtab .any (opsOf Try.f34 6) = laws_eqStepS.T6:=by kernel_rfl
theorem laws_eqStepS.bits6:waitsOk laws_eqStepS.T6.2 laws_eqStepS.B6 = true:=by kernel_rfl
set_option maxHeartbeats 8000000 in
set_option maxRecDepth 100000 in
theorem laws_eqStepS.calls (k:Nat) (A0:Option Addr) (c0:Nat) (l0:List (S81)) (A1:Option Addr) (c1:Nat) (l1:List (S81)) (r:Bool) (w:World) (hr0:Kd.C k81 w A0 l0.length l0) (hc0:l0.length ≤ c0) (hr1:Kd.C k81 w A1 l1.length l1) (hc1:l1.length ≤ c1) (h:laws_eqStepS.f k l0 l1 = some r) :
  Calls Try.prog 34 #[.slice A0 l0.length c0,.slice A1 l1.length c1] w fun e w'=>e = .returned (.bool r) ∧ Below w.heap.size w w':=by
 have hu81:=Try.underlying81
 have HR0:=Aside0.mk hr0
 have HC0:=Aside0.mk hc0
 clear hr0 hc0
 have HR1:=Aside0.mk hr1
 have HC1:=Aside0.mk hc1
 clear hr1 hc1
 have HB:=Aside0.mk (Below.refl w.heap.size w)
 have H:(if (l0.length:Int) = (l1.length:Int) then (laws_eqStepS.l0 k l0 l1 0) else (some false)) = some r:=h
 clear h
 by_cases c3:(l0.length:Int) = (l1.length:Int)
 ·rw [if_pos c3] at H
  have c3b0:((l0.length:Int) == (l1.length:Int)) = true:=beq_iff_eq.mpr c3
  have c3b1:((l0.length:Int) != (l1.length:Int)) = false:=bne_eq_false_iff_eq.mpr c3
  have c3b2:(l0.length == l1.length) = true:=by first|simpa using c3|(simp at c3 ⊢;omega)
  clear c3
  have H':=Aside0.mk H
  clear H
  go_enter Try.func34,Try.ntmps34
  go_wp2
  go_loopg [5] k (fun kq v5 w'=>∃ (x5_1:Int),v5 = .int .i64 x5_1 ∧ Aside0 (laws_eqStepS.l0 kq l0 l1 x5_1 = some r) ∧ Aside0 (kq ≤ k) ∧ Aside0 (Below w.heap.size w w'))
  case atStart=>exact ⟨(0),(by first|rfl|(simp;done)|(simp [*];done)),H',⟨Nat.le_refl _⟩,⟨by repeat (first|(with_reducible first|exact HB.out|apply below_alloc|apply pw_below_drewN|apply below_drew1)|exact HB.out)⟩⟩
  case round =>
   clear H'
   try clear c1
   try clear p2
   try clear c3
   try clear c3b0
   try clear c3b1
   try clear c3b2
   obtain ⟨x5_1,rfl,HA,HK1,HB⟩:=hrel
   cases gk with
   | zero=>exact absurd HA.out (by simp [laws_eqStepS.l0])
   | succ k1 =>
    have H:=HA.out
    clear HA
    simp only [laws_eqStepS.l0] at H
    by_cases c4:x5_1 < (l0.length:Int)
    ·rw [if_pos c4] at H
     have c4b0:decide (x5_1 < (l0.length:Int)) = true:=decide_eq_true c4
     clear c4
     by_cases c5:0 ≤ x5_1
     ·rw [if_pos c5] at H
      have c5b0:decide (0 ≤ x5_1) = true:=decide_eq_true c5
      clear c5
      by_cases c6:x5_1 < (l1.length:Int)
      ·rw [if_pos c6] at H
       have c6b0:decide (x5_1 < (l1.length:Int)) = true:=decide_eq_true c6
       clear c6
       replace H:=Option.bind_eq_some_iff.mp H
       obtain ⟨t317,A70,H⟩:=H
       replace H:(if t317 = true then (laws_eqStepS.l0 k1 l0 l1 (wrap64 (x5_1 + 1))) else (some false)) = some r:=H
       have A7:=Aside0.mk A70
       clear A70
       by_cases c8:t317 = true
       ·subst c8
        have H1:(laws_eqStepS.l0 k1 l0 l1 (wrap64 (x5_1 + 1))) = some r:=by rw [if_pos rfl] at H;exact H
        clear H
        have H:=H1
        clear H1
        have H':=Aside0.mk H
        clear H
        try go_wp2
        have n0_:=Aside0.mk (below_drew1 HB.out)
        clear HB
        have HB:=n0_
        clear n0_
        have p315:0 ≤ (x5_1:Int):=of_decide_eq_true (by first|(with_reducible assumption)|assumption)
        have q315:x5_1 < (l0.length:Int):=of_decide_eq_true (by first|(with_reducible assumption)|assumption)
        obtain ⟨ad315,A315_1,c315_1,A315_2,c315_2,A315_3,c315_3,e315,hx315_0,hx315_1,hx315_2,hx315_3,hl315_1,hi315_1,hl315_2,hi315_2,hl315_3,hi315_3⟩:=at_T81 HR0.out x5_1 p315 q315
        have hw315_3:=hx315_3
        have hw315_2:=hx315_2
        have hw315_1:=hx315_1
        have hw315_0:=hx315_0
        cases e315
        replace hx315_0:=(HB.out.cell (World.block_lt_of_cell? w _ hx315_0)).trans hx315_0
        replace hx315_1:=(HB.out.cell (World.block_lt_of_cell? w _ hx315_1)).trans hx315_1
        replace hx315_2:=(HB.out.cell (World.block_lt_of_cell? w _ hx315_2)).trans hx315_2
        replace hx315_3:=(HB.out.cell (World.block_lt_of_cell? w _ hx315_3)).trans hx315_3
        have HR315_1:=Aside0.mk hi315_1
        have HC315_1:=Aside0.mk hl315_1
        clear hi315_1 hl315_1
        have HR315_2:=Aside0.mk hi315_2
        have HC315_2:=Aside0.mk hl315_2
        clear hi315_2 hl315_2
        have HR315_3:=Aside0.mk hi315_3
        have HC315_3:=Aside0.mk hl315_3
        clear hi315_3 hl315_3
        replace p315:=eq_true p315
        replace q315:=eq_true q315
        have p316:0 ≤ (x5_1:Int):=of_decide_eq_true (by first|(with_reducible assumption)|assumption)
        have q316:x5_1 < (l1.length:Int):=of_decide_eq_true (by first|(with_reducible assumption)|assumption)
        obtain ⟨ad316,A316_1,c316_1,A316_2,c316_2,A316_3,c316_3,e316,hx316_0,hx316_1,hx316_2,hx316_3,hl316_1,hi316_1,hl316_2,hi316_2,hl316_3,hi316_3⟩:=at_T81 HR1.out x5_1 p316 q316
        have hw316_3:=hx316_3
        have hw316_2:=hx316_2
        have hw316_1:=hx316_1
        have hw316_0:=hx316_0
        cases e316
        replace hx316_0:=(HB.out.cell (World.block_lt_of_cell? w _ hx316_0)).trans hx316_0
        replace hx316_1:=(HB.out.cell (World.block_lt_of_cell? w _ hx316_1)).trans hx316_1
        replace hx316_2:=(HB.out.cell (World.block_lt_of_cell? w _ hx316_2)).trans hx316_2
        replace hx316_3:=(HB.out.cell (World.block_lt_of_cell? w _ hx316_3)).trans hx316_3
        have HR316_1:=Aside0.mk hi316_1
        have HC316_1:=Aside0.mk hl316_1
        clear hi316_1 hl316_1
        have HR316_2:=Aside0.mk hi316_2
        have HC316_2:=Aside0.mk hl316_2
        clear hi316_2 hl316_2
        have HR316_3:=Aside0.mk hi316_3
        have HC316_3:=Aside0.mk hl316_3
        clear hi316_3 hl316_3
        replace p316:=eq_true p316
        replace q316:=eq_true q316
        refine start_ (n:=10) (S:=fun w'=>w'.cell? (ad315.add ((x5_1).toNat * 4)) = some (.int .i64 ((rd_T81 l0 x5_1).f0)) ∧ w'.cell? ⟨(ad315.add ((x5_1).toNat * 4)).block,(ad315.add ((x5_1).toNat * 4)).off + 1,none⟩ = some (.slice A315_1 ((rd_T81 l0 x5_1).f1).length c315_1) ∧ w'.cell? ⟨(ad315.add ((x5_1).toNat * 4)).block,(ad315.add ((x5_1).toNat * 4)).off + 2,none⟩ = some (.slice A315_2 ((rd_T81 l0 x5_1).f2).length c315_2) ∧ w'.cell? ⟨(ad315.add ((x5_1).toNat * 4)).block,(ad315.add ((x5_1).toNat * 4)).off + 3,none⟩ = some (.slice A315_3 ((rd_T81 l0 x5_1).f3).length c315_3) ∧ w'.cell? (ad316.add ((x5_1).toNat * 4)) = some (.int .i64 ((rd_T81 l1 x5_1).f0)) ∧ w'.cell? ⟨(ad316.add ((x5_1).toNat * 4)).block,(ad316.add ((x5_1).toNat * 4)).off + 1,none⟩ = some (.slice A316_1 ((rd_T81 l1 x5_1).f1).length c316_1) ∧ w'.cell? ⟨(ad316.add ((x5_1).toNat * 4)).block,(ad316.add ((x5_1).toNat * 4)).off + 2,none⟩ = some (.slice A316_2 ((rd_T81 l1 x5_1).f2).length c316_2) ∧ w'.cell? ⟨(ad316.add ((x5_1).toNat * 4)).block,(ad316.add ((x5_1).toNat * 4)).off + 3,none⟩ = some (.slice A316_3 ((rd_T81 l1 x5_1).f3).length c316_3)) (ds:=[]) #[false,false,false,false,false,false,false,false,false,false] (by kernel_rfl) rfl rfl ⟨((HB.out.cell (World.block_lt_of_cell? w _ hw315_0)).trans hw315_0),((HB.out.cell (World.block_lt_of_cell? w _ hw315_1)).trans hw315_1),((HB.out.cell (World.block_lt_of_cell? w _ hw315_2)).trans hw315_2),((HB.out.cell (World.block_lt_of_cell? w _ hw315_3)).trans hw315_3),((HB.out.cell (World.block_lt_of_cell? w _ hw316_0)).trans hw316_0),((HB.out.cell (World.block_lt_of_cell? w _ hw316_1)).trans hw316_1),((HB.out.cell (World.block_lt_of_cell? w _ hw316_2)).trans hw316_2),((HB.out.cell (World.block_lt_of_cell? w _ hw316_3)).trans hw316_3)⟩ (fun hHeld=>?_);refine with_tabW laws_eqStepS.tab6 laws_eqStepS.bits6 (fun HT_ HW_=>?_)
        generalize wr.drew = w9 at HB HR315_1 HR315_2 HR315_3 HR316_1 HR316_2 HR316_3 hx315_0 hx315_1 hx315_2 hx315_3 hx316_0 hx316_1 hx316_2 hx316_3 hHeld ⊢
        refine pure_ (i:=0) (N:=some 17) (v:=?_) (a':=?_) #[true,false,false,false,false,false,false,false,false,false] rfl rfl (any_of HT_.out (by kernel_rfl)) (fun _ _ _ h=>h) (Or.inl ⟨by rfl,?_⟩) ?_ ?_
        rotate_left
        ·intro w'
         go_simp
         with_reducible rfl
        rotate_left
        ·simp only [Act.put,List.setIfInBounds_toArray,List.set_cons_zero,List.set_cons_succ,i64_w,i32_w]
         rfl
        refine pure_ (i:=1) (N:=some 18) (v:=?_) (a':=?_) #[true,true,false,false,false,false,false,false,false,false] rfl rfl (any_of HT_.out (by kernel_rfl)) (fun _ _ _ h=>h) (Or.inl ⟨by rfl,?_⟩) ?_ ?_
        rotate_left
        ·intro w'
         go_simp
         with_reducible rfl
        rotate_left
        ·simp only [Act.put,List.setIfInBounds_toArray,List.set_cons_zero,List.set_cons_succ,i64_w,i32_w]
         rfl
        refine pure_ (i:=2) (N:=some 19) (v:=?_) (a':=?_) #[true,true,true,false,false,false,false,false,false,false] rfl rfl (any_of HT_.out (by kernel_rfl)) (fun _ _ _ h=>h) (Or.inl ⟨by rfl,?_⟩) ?_ ?_
        rotate_left
        ·intro w'
         go_simp
         with_reducible rfl
        rotate_left
        ·simp only [Act.put,List.setIfInBounds_toArray,List.set_cons_zero,List.set_cons_succ,i64_w,i32_w]
         rfl
        refine pure_ (i:=4) (N:=some 21) (v:=?_) (a':=?_) #[true,true,true,false,true,false,false,false,false,false] rfl rfl (any_of HT_.out (by kernel_rfl)) (fun _ _ _ h=>h) (Or.inl ⟨by rfl,?_⟩) ?_ ?_
        rotate_left
        ·intro w'
         go_simp
         with_reducible rfl
        rotate_left
        ·simp only [Act.put,List.setIfInBounds_toArray,List.set_cons_zero,List.set_cons_succ,i64_w,i32_w]
         rfl
        refine pure_ (i:=5) (N:=some 22) (v:=?_) (a':=?_) #[true,true,true,false,true,true,false,false,false,false] rfl rfl (any_of HT_.out (by kernel_rfl)) (fun _ _ _ h=>h) (Or.inl ⟨by rfl,?_⟩) ?_ ?_
        rotate_left
        ·intro w'
         go_simp
         with_reducible rfl
        rotate_left
        ·simp only [Act.put,List.setIfInBounds_toArray,List.set_cons_zero,List.set_cons_succ,i64_w,i32_w]
         rfl
        refine pure_ (i:=6) (N:=some 23) (v:=?_) (a':=?_) #[true,true,true,false,true,true,true,false,false,false] rfl rfl (any_of HT_.out (by kernel_rfl)) (fun _ _ _ h=>h) (Or.inl ⟨by rfl,?_⟩) ?_ ?_
        rotate_left
        ·intro w'
         go_simp
         with_reducible rfl
        rotate_left
        ·simp only [Act.put,List.setIfInBounds_toArray,List.set_cons_zero,List.set_cons_succ,i64_w,i32_w]
         rfl
        refine take_ (i:=3) (N:=some 20) (v:=?_) (a':=?_) #[true,true,true,true,true,true,true,false,false,false] rfl rfl (take_ofW HT_.out HW_.out (by kernel_rfl)) (fun _ _ _ h=>h) (Or.inl ⟨by rfl,?_⟩) hHeld ?_ ?_
        rotate_left
        ·rintro w' ⟨s0,s1,s2,s3,s4,s5,s6,s7⟩
         go_simp
         with_reducible rfl
        rotate_left
        ·simp only [Act.put,List.setIfInBounds_toArray,List.set_cons_zero,List.set_cons_succ,i64_w,i32_w]
         rfl
        refine take_ (i:=7) (N:=some 24) (v:=?_) (a':=?_) #[true,true,true,true,true,true,true,true,false,false] rfl rfl (take_ofW HT_.out HW_.out (by kernel_rfl)) (fun _ _ _ h=>h) (Or.inl ⟨by rfl,?_⟩) hHeld ?_ ?_
        rotate_left
        ·rintro w' ⟨s0,s1,s2,s3,s4,s5,s6,s7⟩
         go_simp
         with_reducible rfl
        rotate_left
        ·simp only [Act.put,List.setIfInBounds_toArray,List.set_cons_zero,List.set_cons_succ,i64_w,i32_w]
         rfl
        refine one_ (i:=8) (N:=some 25) #[true,true,true,true,true,true,true,true,true,false] rfl rfl (one_of HT_.out (by kernel_rfl)) (by decide) (fun K hK=>?_)
        refine goes_ Try.func60 (by kernel_rfl) rfl #[.agg #[.int .i64 ((rd_T81 l0 x5_1).f0),.slice A315_1 ((rd_T81 l0 x5_1).f1).length c315_1,.slice A315_2 ((rd_T81 l0 x5_1).f2).length c315_2,.slice A315_3 ((rd_T81 l0 x5_1).f3).length c315_3],.agg #[.int .i64 ((rd_T81 l1 x5_1).f0),.slice A316_1 ((rd_T81 l1 x5_1).f1).length c316_1,.slice A316_2 ((rd_T81 l1 x5_1).f2).length c316_2,.slice A316_3 ((rd_T81 l1 x5_1).f3).length c316_3]] (by rfl) rfl rfl (by (try simp only [List.map_toArray,List.map_cons,List.map_nil]);first|done|rfl|(simp only [List.length_drop,List.length_take];rfl)) ?_
        with_reducible refine (laws_eqStep.calls k1 ((rd_T81 l0 x5_1).f0) _ _ ((rd_T81 l0 x5_1).f1) _ _ ((rd_T81 l0 x5_1).f2) _ _ ((rd_T81 l0 x5_1).f3) ((rd_T81 l1 x5_1).f0) _ _ ((rd_T81 l1 x5_1).f1) _ _ ((rd_T81 l1 x5_1).f2) _ _ ((rd_T81 l1 x5_1).f3) true _ ?side1 ?side2 ?side3 ?side4 ?side5 ?side6 ?side7 ?side8 ?side9 ?side10 ?side11 ?side12 A7.out).mono ?_
        (case side1=>repeat (first|exact (Kd.C_below HR315_1.out HB.out)|(with_reducible refine Kd.C_alloc ?_ _)|(with_reducible refine Kd.C_drewN ?_ _)|(with_reducible refine Kd.C_drew ?_)))
        (case side2=>exact HC315_1.out)
        (case side3=>repeat (first|exact (Kd.C_below HR315_2.out HB.out)|(with_reducible refine Kd.C_alloc ?_ _)|(with_reducible refine Kd.C_drewN ?_ _)|(with_reducible refine Kd.C_drew ?_)))
        (case side4=>exact HC315_2.out)
        (case side5=>repeat (first|exact (Kd.C_below HR315_3.out HB.out)|(with_reducible refine Kd.C_alloc ?_ _)|(with_reducible refine Kd.C_drewN ?_ _)|(with_reducible refine Kd.C_drew ?_)))
        (case side6=>exact HC315_3.out)
        (case side7=>repeat (first|exact (Kd.C_below HR316_1.out HB.out)|(with_reducible refine Kd.C_alloc ?_ _)|(with_reducible refine Kd.C_drewN ?_ _)|(with_reducible refine Kd.C_drew ?_)))
        (case side8=>exact HC316_1.out)
        (case side9=>repeat (first|exact (Kd.C_below HR316_2.out HB.out)|(with_reducible refine Kd.C_alloc ?_ _)|(with_reducible refine Kd.C_drewN ?_ _)|(with_reducible refine Kd.C_drew ?_)))
        (case side10=>exact HC316_2.out)
        (case side11=>repeat (first|exact (Kd.C_below HR316_3.out HB.out)|(with_reducible refine Kd.C_alloc ?_ _)|(with_reducible refine Kd.C_drewN ?_ _)|(with_reducible refine Kd.C_drew ?_)))
        (case side12=>exact HC316_3.out)
        rintro e w10 ⟨rfl,hb⟩
        refine ⟨_,rfl,?_⟩
        have n0_:=Aside0.mk (below_step (by repeat (first|(with_reducible first|exact HB.out|apply below_alloc|apply pw_below_drewN|apply below_drew1)|exact HB.out)) hb)
        clear HB
        have HB:=n0_
        clear n0_
        (try clear hb)
        (try clear hb2)
        (try clear hk)
        (try clear hi)
        refine hK.out _ _ ⟨((HB.out.cell (World.block_lt_of_cell? w _ hw315_0)).trans hw315_0),((HB.out.cell (World.block_lt_of_cell? w _ hw315_1)).trans hw315_1),((HB.out.cell (World.block_lt_of_cell? w _ hw315_2)).trans hw315_2),((HB.out.cell (World.block_lt_of_cell? w _ hw315_3)).trans hw315_3),((HB.out.cell (World.block_lt_of_cell? w _ hw316_0)).trans hw316_0),((HB.out.cell (World.block_lt_of_cell? w _ hw316_1)).trans hw316_1),((HB.out.cell (World.block_lt_of_cell? w _ hw316_2)).trans hw316_2),((HB.out.cell (World.block_lt_of_cell? w _ hw316_3)).trans hw316_3)⟩ (fun hHeld=>?_)
        clear hK K
        refine norm_ (a':=?_) ?_ ?_
        rotate_left
        ·show Act.put _ (some 25) _ = _
         simp only [Act.put,List.setIfInBounds_toArray,List.set_cons_zero,List.set_cons_succ,i64_w,i32_w]
         rfl
        refine pure_ (i:=9) (N:=some 26) (v:=?_) (a':=?_) #[true,true,true,true,true,true,true,true,true,true] rfl rfl (any_of HT_.out (by kernel_rfl)) (fun _ _ _ h=>h) (Or.inl ⟨by rfl,?_⟩) ?_ ?_
        rotate_left
        ·intro w'
         go_simp
         with_reducible rfl
        rotate_left
        ·simp only [Act.put,List.setIfInBounds_toArray,List.set_cons_zero,List.set_cons_succ,i64_w,i32_w]
         rfl
        refine done_ (done_of HT_.out (by kernel_rfl)) ?_
        try go_wp2
        go_roundg k1
        case measure=>have:=HK1.out;omega
        case rel=>exact ⟨(wrap64 (x5_1 + 1)),(by first|rfl|(simp;done)|(simp [*];done)),H',⟨by have:=HK1.out;omega⟩,⟨by repeat (first|(with_reducible first|exact HB.out|apply below_alloc|apply pw_below_drewN|apply below_drew1)|exact HB.out)⟩⟩
       ·replace c8:=Bool.eq_false_iff.mpr c8
        subst c8
        have H1:(some false) = some r:=by rw [if_neg (show ¬ (false = true) by decide)] at H;exact H
        clear H
        have H:=H1
        clear H1
        obtain rfl:=Option.some.inj H
        try go_wp2
        have n0_:=Aside0.mk (below_drew1 HB.out)
        clear HB
        have HB:=n0_
        clear n0_
        have p315:0 ≤ (x5_1:Int):=of_decide_eq_true (by first|(with_reducible assumption)|assumption)
        have q315:x5_1 < (l0.length:Int):=of_decide_eq_true (by first|(with_reducible assumption)|assumption)
        obtain ⟨ad315,A315_1,c315_1,A315_2,c315_2,A315_3,c315_3,e315,hx315_0,hx315_1,hx315_2,hx315_3,hl315_1,hi315_1,hl315_2,hi315_2,hl315_3,hi315_3⟩:=at_T81 HR0.out x5_1 p315 q315
        have hw315_3:=hx315_3
        have hw315_2:=hx315_2
        have hw315_1:=hx315_1
        have hw315_0:=hx315_0
        cases e315
        replace hx315_0:=(HB.out.cell (World.block_lt_of_cell? w _ hx315_0)).trans hx315_0
        replace hx315_1:=(HB.out.cell (World.block_lt_of_cell? w _ hx315_1)).trans hx315_1
        replace hx315_2:=(HB.out.cell (World.block_lt_of_cell? w _ hx315_2)).trans hx315_2
        replace hx315_3:=(HB.out.cell (World.block_lt_of_cell? w _ hx315_3)).trans hx315_3
        have HR315_1:=Aside0.mk hi315_1
        have HC315_1:=Aside0.mk hl315_1
        clear hi315_1 hl315_1
        have HR315_2:=Aside0.mk hi315_2
        have HC315_2:=Aside0.mk hl315_2
        clear hi315_2 hl315_2
        have HR315_3:=Aside0.mk hi315_3
        have HC315_3:=Aside0.mk hl315_3
        clear hi315_3 hl315_3
        replace p315:=eq_true p315
        replace q315:=eq_true q315
        have p316:0 ≤ (x5_1:Int):=of_decide_eq_true (by first|(with_reducible assumption)|assumption)
        have q316:x5_1 < (l1.length:Int):=of_decide_eq_true (by first|(with_reducible assumption)|assumption)
        obtain ⟨ad316,A316_1,c316_1,A316_2,c316_2,A316_3,c316_3,e316,hx316_0,hx316_1,hx316_2,hx316_3,hl316_1,hi316_1,hl316_2,hi316_2,hl316_3,hi316_3⟩:=at_T81 HR1.out x5_1 p316 q316
        have hw316_3:=hx316_3
        have hw316_2:=hx316_2
        have hw316_1:=hx316_1
        have hw316_0:=hx316_0
        cases e316
        replace hx316_0:=(HB.out.cell (World.block_lt_of_cell? w _ hx316_0)).trans hx316_0
        replace hx316_1:=(HB.out.cell (World.block_lt_of_cell? w _ hx316_1)).trans hx316_1
        replace hx316_2:=(HB.out.cell (World.block_lt_of_cell? w _ hx316_2)).trans hx316_2
        replace hx316_3:=(HB.out.cell (World.block_lt_of_cell? w _ hx316_3)).trans hx316_3
        have HR316_1:=Aside0.mk hi316_1
        have HC316_1:=Aside0.mk hl316_1
        clear hi316_1 hl316_1
        have HR316_2:=Aside0.mk hi316_2
        have HC316_2:=Aside0.mk hl316_2
        clear hi316_2 hl316_2
        have HR316_3:=Aside0.mk hi316_3
        have HC316_3:=Aside0.mk hl316_3
        clear hi316_3 hl316_3
        replace p316:=eq_true p316
        replace q316:=eq_true q316
        refine start_ (n:=10) (S:=fun w'=>w'.cell? (ad315.add ((x5_1).toNat * 4)) = some (.int .i64 ((rd_T81 l0 x5_1).f0)) ∧ w'.cell? ⟨(ad315.add ((x5_1).toNat * 4)).block,(ad315.add ((x5_1).toNat * 4)).off + 1,none⟩ = some (.slice A315_1 ((rd_T81 l0 x5_1).f1).length c315_1) ∧ w'.cell? ⟨(ad315.add ((x5_1).toNat * 4)).block,(ad315.add ((x5_1).toNat * 4)).off + 2,none⟩ = some (.slice A315_2 ((rd_T81 l0 x5_1).f2).length c315_2) ∧ w'.cell? ⟨(ad315.add ((x5_1).toNat * 4)).block,(ad315.add ((x5_1).toNat * 4)).off + 3,none⟩ = some (.slice A315_3 ((rd_T81 l0 x5_1).f3).length c315_3) ∧ w'.cell? (ad316.add ((x5_1).toNat * 4)) = some (.int .i64 ((rd_T81 l1 x5_1).f0)) ∧ w'.cell? ⟨(ad316.add ((x5_1).toNat * 4)).block,(ad316.add ((x5_1).toNat * 4)).off + 1,none⟩ = some (.slice A316_1 ((rd_T81 l1 x5_1).f1).length c316_1) ∧ w'.cell? ⟨(ad316.add ((x5_1).toNat * 4)).block,(ad316.add ((x5_1).toNat * 4)).off + 2,none⟩ = some (.slice A316_2 ((rd_T81 l1 x5_1).f2).length c316_2) ∧ w'.cell? ⟨(ad316.add ((x5_1).toNat * 4)).block,(ad316.add ((x5_1).toNat * 4)).off + 3,none⟩ = some (.slice A316_3 ((rd_T81 l1 x5_1).f3).length c316_3)) (ds:=[]) #[false,false,false,false,false,false,false,false,false,false] (by kernel_rfl) rfl rfl ⟨((HB.out.cell (World.block_lt_of_cell? w _ hw315_0)).trans hw315_0),((HB.out.cell (World.block_lt_of_cell? w _ hw315_1)).trans hw315_1),((HB.out.cell (World.block_lt_of_cell? w _ hw315_2)).trans hw315_2),((HB.out.cell (World.block_lt_of_cell? w _ hw315_3)).trans hw315_3),((HB.out.cell (World.block_lt_of_cell? w _ hw316_0)).trans hw316_0),((HB.out.cell (World.block_lt_of_cell? w _ hw316_1)).trans hw316_1),((HB.out.cell (World.block_lt_of_cell? w _ hw316_2)).trans hw316_2),((HB.out.cell (World.block_lt_of_cell? w _ hw316_3)).trans hw316_3)⟩ (fun hHeld=>?_);refine with_tabW laws_eqStepS.tab6 laws_eqStepS.bits6 (fun HT_ HW_=>?_)
        generalize wr.drew = w11 at HB HR315_1 HR315_2 HR315_3 HR316_1 HR316_2 HR316_3 hx315_0 hx315_1 hx315_2 hx315_3 hx316_0 hx316_1 hx316_2 hx316_3 hHeld ⊢
        refine pure_ (i:=0) (N:=some 17) (v:=?_) (a':=?_) #[true,false,false,false,false,false,false,false,false,false] rfl rfl (any_of HT_.out (by kernel_rfl)) (fun _ _ _ h=>h) (Or.inl ⟨by rfl,?_⟩) ?_ ?_
        rotate_left
        ·intro w'
         go_simp
         with_reducible rfl
        rotate_left
        ·simp only [Act.put,List.setIfInBounds_toArray,List.set_cons_zero,List.set_cons_succ,i64_w,i32_w]
         rfl
        refine pure_ (i:=1) (N:=some 18) (v:=?_) (a':=?_) #[true,true,false,false,false,false,false,false,false,false] rfl rfl (any_of HT_.out (by kernel_rfl)) (fun _ _ _ h=>h) (Or.inl ⟨by rfl,?_⟩) ?_ ?_
        rotate_left
        ·intro w'
         go_simp
         with_reducible rfl
        rotate_left
        ·simp only [Act.put,List.setIfInBounds_toArray,List.set_cons_zero,List.set_cons_succ,i64_w,i32_w]
         rfl
        refine pure_ (i:=2) (N:=some 19) (v:=?_) (a':=?_) #[true,true,true,false,false,false,false,false,false,false] rfl rfl (any_of HT_.out (by kernel_rfl)) (fun _ _ _ h=>h) (Or.inl ⟨by rfl,?_⟩) ?_ ?_
        rotate_left
        ·intro w'
         go_simp
         with_reducible rfl
        rotate_left
        ·simp only [Act.put,List.setIfInBounds_toArray,List.set_cons_zero,List.set_cons_succ,i64_w,i32_w]
         rfl
        refine pure_ (i:=4) (N:=some 21) (v:=?_) (a':=?_) #[true,true,true,false,true,false,false,false,false,false] rfl rfl (any_of HT_.out (by kernel_rfl)) (fun _ _ _ h=>h) (Or.inl ⟨by rfl,?_⟩) ?_ ?_
        rotate_left
        ·intro w'
         go_simp
         with_reducible rfl
        rotate_left
        ·simp only [Act.put,List.setIfInBounds_toArray,List.set_cons_zero,List.set_cons_succ,i64_w,i32_w]
         rfl
        refine pure_ (i:=5) (N:=some 22) (v:=?_) (a':=?_) #[true,true,true,false,true,true,false,false,false,false] rfl rfl (any_of HT_.out (by kernel_rfl)) (fun _ _ _ h=>h) (Or.inl ⟨by rfl,?_⟩) ?_ ?_
        rotate_left
        ·intro w'
         go_simp
         with_reducible rfl
        rotate_left
        ·simp only [Act.put,List.setIfInBounds_toArray,List.set_cons_zero,List.set_cons_succ,i64_w,i32_w]
         rfl
        refine pure_ (i:=6) (N:=some 23) (v:=?_) (a':=?_) #[true,true,true,false,true,true,true,false,false,false] rfl rfl (any_of HT_.out (by kernel_rfl)) (fun _ _ _ h=>h) (Or.inl ⟨by rfl,?_⟩) ?_ ?_
        rotate_left
        ·intro w'
         go_simp
         with_reducible rfl
        rotate_left
        ·simp only [Act.put,List.setIfInBounds_toArray,List.set_cons_zero,List.set_cons_succ,i64_w,i32_w]
         rfl
        refine take_ (i:=3) (N:=some 20) (v:=?_) (a':=?_) #[true,true,true,true,true,true,true,false,false,false] rfl rfl (take_ofW HT_.out HW_.out (by kernel_rfl)) (fun _ _ _ h=>h) (Or.inl ⟨by rfl,?_⟩) hHeld ?_ ?_
        rotate_left
        ·rintro w' ⟨s0,s1,s2,s3,s4,s5,s6,s7⟩
         go_simp
         with_reducible rfl
        rotate_left
        ·simp only [Act.put,List.setIfInBounds_toArray,List.set_cons_zero,List.set_cons_succ,i64_w,i32_w]
         rfl
        refine take_ (i:=7) (N:=some 24) (v:=?_) (a':=?_) #[true,true,true,true,true,true,true,true,false,false] rfl rfl (take_ofW HT_.out HW_.out (by kernel_rfl)) (fun _ _ _ h=>h) (Or.inl ⟨by rfl,?_⟩) hHeld ?_ ?_
        rotate_left
        ·rintro w' ⟨s0,s1,s2,s3,s4,s5,s6,s7⟩
         go_simp
         with_reducible rfl
        rotate_left
        ·simp only [Act.put,List.setIfInBounds_toArray,List.set_cons_zero,List.set_cons_succ,i64_w,i32_w]
         rfl
        refine one_ (i:=8) (N:=some 25) #[true,true,true,true,true,true,true,true,true,false] rfl rfl (one_of HT_.out (by kernel_rfl)) (by decide) (fun K hK=>?_)
        refine goes_ Try.func60 (by kernel_rfl) rfl #[.agg #[.int .i64 ((rd_T81 l0 x5_1).f0),.slice A315_1 ((rd_T81 l0 x5_1).f1).length c315_1,.slice A315_2 ((rd_T81 l0 x5_1).f2).length c315_2,.slice A315_3 ((rd_T81 l0 x5_1).f3).length c315_3],.agg #[.int .i64 ((rd_T81 l1 x5_1).f0),.slice A316_1 ((rd_T81 l1 x5_1).f1).length c316_1,.slice A316_2 ((rd_T81 l1 x5_1).f2).length c316_2,.slice A316_3 ((rd_T81 l1 x5_1).f3).length c316_3]] (by rfl) rfl rfl (by (try simp only [List.map_toArray,List.map_cons,List.map_nil]);first|done|rfl|(simp only [List.length_drop,List.length_take];rfl)) ?_
        with_reducible refine (laws_eqStep.calls k1 ((rd_T81 l0 x5_1).f0) _ _ ((rd_T81 l0 x5_1).f1) _ _ ((rd_T81 l0 x5_1).f2) _ _ ((rd_T81 l0 x5_1).f3) ((rd_T81 l1 x5_1).f0) _ _ ((rd_T81 l1 x5_1).f1) _ _ ((rd_T81 l1 x5_1).f2) _ _ ((rd_T81 l1 x5_1).f3) false _ ?side1 ?side2 ?side3 ?side4 ?side5 ?side6 ?side7 ?side8 ?side9 ?side10 ?side11 ?side12 A7.out).mono ?_
        (case side1=>repeat (first|exact (Kd.C_below HR315_1.out HB.out)|(with_reducible refine Kd.C_alloc ?_ _)|(with_reducible refine Kd.C_drewN ?_ _)|(with_reducible refine Kd.C_drew ?_)))
        (case side2=>exact HC315_1.out)
        (case side3=>repeat (first|exact (Kd.C_below HR315_2.out HB.out)|(with_reducible refine Kd.C_alloc ?_ _)|(with_reducible refine Kd.C_drewN ?_ _)|(with_reducible refine Kd.C_drew ?_)))
        (case side4=>exact HC315_2.out)
        (case side5=>repeat (first|exact (Kd.C_below HR315_3.out HB.out)|(with_reducible refine Kd.C_alloc ?_ _)|(with_reducible refine Kd.C_drewN ?_ _)|(with_reducible refine Kd.C_drew ?_)))
        (case side6=>exact HC315_3.out)
        (case side7=>repeat (first|exact (Kd.C_below HR316_1.out HB.out)|(with_reducible refine Kd.C_alloc ?_ _)|(with_reducible refine Kd.C_drewN ?_ _)|(with_reducible refine Kd.C_drew ?_)))
        (case side8=>exact HC316_1.out)
        (case side9=>repeat (first|exact (Kd.C_below HR316_2.out HB.out)|(with_reducible refine Kd.C_alloc ?_ _)|(with_reducible refine Kd.C_drewN ?_ _)|(with_reducible refine Kd.C_drew ?_)))
        (case side10=>exact HC316_2.out)
        (case side11=>repeat (first|exact (Kd.C_below HR316_3.out HB.out)|(with_reducible refine Kd.C_alloc ?_ _)|(with_reducible refine Kd.C_drewN ?_ _)|(with_reducible refine Kd.C_drew ?_)))
        (case side12=>exact HC316_3.out)
        rintro e w12 ⟨rfl,hb⟩
        refine ⟨_,rfl,?_⟩
        have n0_:=Aside0.mk (below_step (by repeat (first|(with_reducible first|exact HB.out|apply below_alloc|apply pw_below_drewN|apply below_drew1)|exact HB.out)) hb)
        clear HB
        have HB:=n0_
        clear n0_
        (try clear hb)
        (try clear hb2)
        (try clear hk)
        (try clear hi)
        refine hK.out _ _ ⟨((HB.out.cell (World.block_lt_of_cell? w _ hw315_0)).trans hw315_0),((HB.out.cell (World.block_lt_of_cell? w _ hw315_1)).trans hw315_1),((HB.out.cell (World.block_lt_of_cell? w _ hw315_2)).trans hw315_2),((HB.out.cell (World.block_lt_of_cell? w _ hw315_3)).trans hw315_3),((HB.out.cell (World.block_lt_of_cell? w _ hw316_0)).trans hw316_0),((HB.out.cell (World.block_lt_of_cell? w _ hw316_1)).trans hw316_1),((HB.out.cell (World.block_lt_of_cell? w _ hw316_2)).trans hw316_2),((HB.out.cell (World.block_lt_of_cell? w _ hw316_3)).trans hw316_3)⟩ (fun hHeld=>?_)
        clear hK K
        refine norm_ (a':=?_) ?_ ?_
        rotate_left
        ·show Act.put _ (some 25) _ = _
         simp only [Act.put,List.setIfInBounds_toArray,List.set_cons_zero,List.set_cons_succ,i64_w,i32_w]
         rfl
        refine pure_ (i:=9) (N:=some 26) (v:=?_) (a':=?_) #[true,true,true,true,true,true,true,true,true,true] rfl rfl (any_of HT_.out (by kernel_rfl)) (fun _ _ _ h=>h) (Or.inl ⟨by rfl,?_⟩) ?_ ?_
        rotate_left
        ·intro w'
         go_simp
         with_reducible rfl
        rotate_left
        ·simp only [Act.put,List.setIfInBounds_toArray,List.set_cons_zero,List.set_cons_succ,i64_w,i32_w]
         rfl
        refine done_ (done_of HT_.out (by kernel_rfl)) ?_
        try go_wp2
        go_ret
        exact ⟨by first|rfl|(simp [errW_none,errW_some] <;> rfl)|(simp [*,errW_none,errW_some] <;> rfl),by repeat (first|(with_reducible first|exact HB.out|apply below_alloc|apply pw_below_drewN|apply below_drew1)|exact HB.out)⟩
      ·rw [if_neg c6] at H
       exact absurd H (by simp)
     ·rw [if_neg c5] at H
      exact absurd H (by simp)
    ·rw [if_neg c4] at H
     have c4b0:decide (x5_1 < (l0.length:Int)) = false:=decide_eq_false c4
     clear c4
     obtain rfl:=Option.some.inj H
     go_wp2
     go_ret
     exact ⟨by first|rfl|(simp [errW_none,errW_some] <;> rfl)|(simp [*,errW_none,errW_some] <;> rfl),by repeat (first|(with_reducible first|exact HB.out|apply below_alloc|apply pw_below_drewN|apply below_drew1)|exact HB.out)⟩
 ·rw [if_neg c3] at H
  have c3b0:((l0.length:Int) == (l1.length:Int)) = false:=beq_eq_false_iff_ne.mpr c3
  have c3b1:((l0.length:Int) != (l1.length:Int)) = true:=bne_iff_ne.mpr c3
  have c3b2:(l0.length == l1.length) = false:=by first|simpa using c3|(simp at c3 ⊢;omega)
  obtain rfl:=Option.some.inj H
  go_enter Try.func34,Try.ntmps34
  go_wp2
  go_ret
  exact ⟨by first|rfl|(simp [errW_none,errW_some] <;> rfl)|(simp [*,errW_none,errW_some] <;> rfl),by repeat (first|(with_reducible first|exact HB.out|apply below_alloc|apply pw_below_drewN|apply below_drew1)|exact HB.out)⟩

end Go.Proofs.Ytlgnanbnicmdaab.QFnExactInputsOf
