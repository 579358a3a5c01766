-- Written by this session's own program (wip/x/xprint.py, over the kit's printer); Lean checks it.
import Derived.Test.YtmgkflkfoccgkaaQFnPutForx0
import Derived.Test.YtmgkflkfoccgkaaQFnPutForx9
import Derived.Test.YtmgkflkfoccgkaaQFnPutForx10
namespace Go.Proofs.Ytmgkflkfoccgkaa.QFnPutFor
open Go.RowKit Go.Proofs.YtmgkflkfoccgkaaW.PrintWords Go.Proofs.YtmgkflkfoccgkaaW.PrintLast Go.Proofs.YtmgkflkfoccgkaaW.PrintMore
attribute [local go_sem] max2_int min2_int max_two min_two max_three min_three max_four min_four   -- for this text's walks alone
set_option linter.unusedVariables false
set_option linter.unusedSimpArgs false

/-! ### spec_l5World: function 57 -/
mutual
def spec_l5World.j0:Nat → Bool → List Int → Int → List (List Int) → Option (Bool)
 | 0,_,_,_,_=>none
 | k + 1,x19,x354000,x355000,x355001=>if x19 = true then (some false) else (spec_l5World.l0 k x355001 (x355001.length:Int) 0 x354000 x355000 x355001)
def spec_l5World.l0:Nat → List (List Int) → Int → Int → List Int → Int → List (List Int) → Option (Bool)
 | 0,_,_,_,_,_,_=>none
 | k + 1,x21,x22,x23,x354000,x355000,x355001=>if x23 < x22 then (if 0 ≤ x23 then (if x23 < (x21.length:Int) then (if x23 < (x354000.length:Int) then ((spec_l5Long.f k x355000 (rd x354000 x23)).bind fun t358=>(if ((rd_L2 x21 x23).length:Int) = t358 then ((spec_l1All.f k (rd_L2 x21 x23) 0 (wrap64 (x355000 - 1))).bind fun t359=>(if t359 = true then (spec_l5World.l0 k x21 x22 (wrap64 (x23 + 1)) x354000 x355000 x355001) else (some false))) else (some false))) else (none)) else (none)) else (none)) else (some true)
end
def spec_l5World.f (k:Nat) (l0_0:List Int) (a1_0:Int) (l1_1:List (List Int)):Option (Bool):=(spec_l1In.f a1_0 1 3).bind fun t355=>(if t355 = true then (spec_l5World.j0 k ((l1_1.length:Int) != (l0_0.length:Int)) l0_0 a1_0 l1_1) else (spec_l5World.j0 k true l0_0 a1_0 l1_1))
theorem spec_l5World.mono_l:∀ k,(∀ y0 y1 y2 y3,LeO (spec_l5World.j0 k y0 y1 y2 y3) (spec_l5World.j0 (k + 1) y0 y1 y2 y3)) ∧ (∀ y0 y1 y2 y3 y4 y5,LeO (spec_l5World.l0 k y0 y1 y2 y3 y4 y5) (spec_l5World.l0 (k + 1) y0 y1 y2 y3 y4 y5))
 | 0=>⟨fun _ _ _ _ r h=>by simp [spec_l5World.j0] at h,fun _ _ _ _ _ _ r h=>by simp [spec_l5World.l0] at h⟩
 | k + 1=>by
  obtain ⟨ih0,ih1⟩:=spec_l5World.mono_l k
  refine ⟨?_,?_⟩
  ·intro y0 y1 y2 y3
   unfold spec_l5World.j0
   have m0:=@spec_l1All.mono
   have m1:=@spec_l5Long.mono
   exact mO
  ·intro y0 y1 y2 y3 y4 y5
   unfold spec_l5World.l0
   have m0:=@spec_l1All.mono
   have m1:=@spec_l5Long.mono
   exact mO
theorem spec_l5World.mono:∀ a0 a1 a2 k,LeO (spec_l5World.f k a0 a1 a2) (spec_l5World.f (k + 1) a0 a1 a2):=by
 intro a0 a1 a2 k
 obtain ⟨ih0,ih1⟩:=spec_l5World.mono_l k
 unfold spec_l5World.f
 have m0:=@spec_l1All.mono
 have m1:=@spec_l5Long.mono
 exact mO
set_option maxHeartbeats 8000000 in
set_option maxRecDepth 100000 in
theorem spec_l5World.calls (k:Nat) (A0_0:Option Addr) (c0_0:Nat) (l0_0:List Int) (a1_0:Int) (A1_1:Option Addr) (c1_1:Nat) (l1_1:List (List Int)) (r:Bool) (w:World) (hr0_0:Kd.C (Kd.int .i64) w A0_0 l0_0.length l0_0) (hc0_0:l0_0.length ≤ c0_0) (hr1_1:Kd.C (Kd.slice 3 (Kd.int .i64)) w A1_1 l1_1.length l1_1) (hc1_1:l1_1.length ≤ c1_1) (h:spec_l5World.f k l0_0 a1_0 l1_1 = some r) :
  Calls Try.prog 57 #[.agg #[.slice A0_0 l0_0.length c0_0],.agg #[.int .i64 a1_0,.slice A1_1 l1_1.length c1_1]] w fun e w'=>e = .returned (.bool r) ∧ Below w.heap.size w w':=by
 have hu26:=Try.underlying26
 have hu31:=Try.underlying31
 have HR0_0:=Aside0.mk hr0_0
 have HC0_0:=Aside0.mk hc0_0
 clear hr0_0 hc0_0
 have HR1_1:=Aside0.mk hr1_1
 have HC1_1:=Aside0.mk hc1_1
 clear hr1_1 hc1_1
 have HB:=Aside0.mk (Below.refl w.heap.size w)
 have H:((spec_l1In.f a1_0 1 3).bind fun t355=>(if t355 = true then (spec_l5World.j0 k ((l1_1.length:Int) != (l0_0.length:Int)) l0_0 a1_0 l1_1) else (spec_l5World.j0 k true l0_0 a1_0 l1_1))) = some r:=h
 clear h
 have HC3:=Aside0.mk H
 clear H
 go_enter Try.func57,Try.ntmps57
 go_upto_region 1 with (first|((with_reducible refine gate_dst (N:=2) rfl ?_);(try (refine gate_guard (by rfl) ?_;dsimp only));refine box_event ?hg (N:=2) ?hd (cs:=#[.slice A0_0 l0_0.length c0_0]) (t:=26) ?hr ?_;(case hd=>rfl);(case hg=>rfl);(case hr=>exact Yd);intro gb353 hg w4 hbox hb;have BK353:=Aside0.mk (hbox);have GW353:=Aside0.mk ((hZ:w.heap.size ≤ gb353));have GE353:=Aside0.mk ((hZ:w.heap.size ≤ gb353));replace HB:=Aside0.mk (below_step bH hb);clear hb hbox hg)|((with_reducible refine gate_dst (N:=3) rfl ?_);(try (refine gate_guard (by rfl) ?_;dsimp only));refine box_event ?hg (N:=3) ?hd (cs:=#[.int .i64 a1_0,.slice A1_1 l1_1.length c1_1]) (t:=31) ?hr ?_;(case hd=>rfl);(case hg=>rfl);(case hr=>exact Yd);intro gb354 hg w5 hbox hb;have BK354:=Aside0.mk (hbox);have GW354:=Aside0.mk ((hZ:w.heap.size ≤ gb354));have GE354:=Aside0.mk ((hZ:w.heap.size ≤ gb354));replace HB:=Aside0.mk (below_step bH hb);have NB353_354:=Aside0.mk ((nL BK353:gb353 ≠ gb354));have NB354_353:=Aside0.mk ((nG BK353:gb354 ≠ gb353));replace BK353:=Aside0.mk (blk_below (bB BK353) hb);clear hb hbox hg))
 repeat (go_quiet (first|((with_reducible refine gate_dst (N:=2) rfl ?_);(try (refine gate_guard (by rfl) ?_;dsimp only));refine box_event ?hg (N:=2) ?hd (cs:=#[.slice A0_0 l0_0.length c0_0]) (t:=26) ?hr ?_;(case hd=>rfl);(case hg=>rfl);(case hr=>exact Yd);intro gb353 hg w4 hbox hb;have BK353:=Aside0.mk (hbox);have GW353:=Aside0.mk ((hZ:w.heap.size ≤ gb353));have GE353:=Aside0.mk ((hZ:w.heap.size ≤ gb353));replace HB:=Aside0.mk (below_step bH hb);clear hb hbox hg)|((with_reducible refine gate_dst (N:=3) rfl ?_);(try (refine gate_guard (by rfl) ?_;dsimp only));refine box_event ?hg (N:=3) ?hd (cs:=#[.int .i64 a1_0,.slice A1_1 l1_1.length c1_1]) (t:=31) ?hr ?_;(case hd=>rfl);(case hg=>rfl);(case hr=>exact Yd);intro gb354 hg w5 hbox hb;have BK354:=Aside0.mk (hbox);have GW354:=Aside0.mk ((hZ:w.heap.size ≤ gb354));have GE354:=Aside0.mk ((hZ:w.heap.size ≤ gb354));replace HB:=Aside0.mk (below_step bH hb);have NB353_354:=Aside0.mk ((nL BK353:gb353 ≠ gb354));have NB354_353:=Aside0.mk ((nG BK353:gb354 ≠ gb353));replace BK353:=Aside0.mk (blk_below (bB BK353) hb);clear hb hbox hg));go_upto_region 1 with (first|((with_reducible refine gate_dst (N:=2) rfl ?_);(try (refine gate_guard (by rfl) ?_;dsimp only));refine box_event ?hg (N:=2) ?hd (cs:=#[.slice A0_0 l0_0.length c0_0]) (t:=26) ?hr ?_;(case hd=>rfl);(case hg=>rfl);(case hr=>exact Yd);intro gb353 hg w4 hbox hb;have BK353:=Aside0.mk (hbox);have GW353:=Aside0.mk ((hZ:w.heap.size ≤ gb353));have GE353:=Aside0.mk ((hZ:w.heap.size ≤ gb353));replace HB:=Aside0.mk (below_step bH hb);clear hb hbox hg)|((with_reducible refine gate_dst (N:=3) rfl ?_);(try (refine gate_guard (by rfl) ?_;dsimp only));refine box_event ?hg (N:=3) ?hd (cs:=#[.int .i64 a1_0,.slice A1_1 l1_1.length c1_1]) (t:=31) ?hr ?_;(case hd=>rfl);(case hg=>rfl);(case hr=>exact Yd);intro gb354 hg w5 hbox hb;have BK354:=Aside0.mk (hbox);have GW354:=Aside0.mk ((hZ:w.heap.size ≤ gb354));have GE354:=Aside0.mk ((hZ:w.heap.size ≤ gb354));replace HB:=Aside0.mk (below_step bH hb);have NB353_354:=Aside0.mk ((nL BK353:gb353 ≠ gb354));have NB354_353:=Aside0.mk ((nG BK353:gb354 ≠ gb353));replace BK353:=Aside0.mk (blk_below (bB BK353) hb);clear hb hbox hg)))
 (try simp only [Act.put,List.setIfInBounds_toArray,List.set_cons_zero,List.set_cons_succ])
 go_cut [19] (fun v19 wc=>∃ (kq:Nat) (x19_2:Bool),v19 = .bool x19_2 ∧ Aside0 (spec_l5World.j0 kq x19_2 l0_0 a1_0 l1_1 = some r) ∧ Aside0 (kq ≤ k) ∧ Aside0 (wc.heap[gb353]? = some (.cells #[(.slice A0_0 l0_0.length c0_0)] 26 (0,0))) ∧ Aside0 (wc.heap[gb354]? = some (.cells #[.int .i64 a1_0,(.slice A1_1 l1_1.length c1_1)] 31 (0,0))) ∧ Aside0 (Below w.heap.size w wc))
 case first =>
  have H:=HC3.out
  clear HC3
  replace H:=Option.bind_eq_some_iff.mp H
  obtain ⟨t355,A60,H⟩:=H
  replace H:(if t355 = true then (spec_l5World.j0 k ((l1_1.length:Int) != (l0_0.length:Int)) l0_0 a1_0 l1_1) else (spec_l5World.j0 k true l0_0 a1_0 l1_1)) = some r:=H
  have A6:=Aside0.mk A60
  clear A60
  by_cases c7:t355 = true
  ·subst c7
   have H1:(spec_l5World.j0 k ((l1_1.length:Int) != (l0_0.length:Int)) l0_0 a1_0 l1_1) = some r:=by rw [if_pos rfl] at H;exact H
   clear H
   have H:=H1
   clear H1
   have H':=Aside0.mk H
   clear H
   have hnb8:=NB354_353.out
   have hnc8:=NB353_354.out
   have hcz9_0:w5.cell? ⟨gb354,0,none⟩ = some (.int .i64 a1_0):=(blk_cell BK354.out 0).trans rfl
   have hcz9_1:w5.cell? ⟨gb354,1,none⟩ = some (.slice A1_1 l1_1.length c1_1):=(blk_cell BK354.out 1).trans rfl
   have hfz9_0:=blk_frozen BK354.out 0
   have hfz9_1:=blk_frozen BK354.out 1
   go_wp2_with (first|(go_at_call 83;(with_reducible refine (spec_l1In.calls a1_0 1 3 true _ A6.out).mono ?_);rintro e w' ⟨rfl,⟨nd,rfl⟩⟩;(try first|exact ⟨rfl,_,World.drewN_drewN _ _ _⟩|exact ⟨rfl,_,Eq.trans (World.drewN_drewN _ _ _) (congrArg (World.drewN _) (Nat.add_assoc _ _ _))⟩);have hcz10_0:w5.cell? ⟨gb353,0,none⟩ = some (.slice A0_0 l0_0.length c0_0):=(blk_cell BK353.out 0).trans rfl;have hfz10_0:=blk_frozen BK353.out 0))
   repeat (go_quiet (first|(go_at_call 83;(with_reducible refine (spec_l1In.calls a1_0 1 3 true _ A6.out).mono ?_);rintro e w' ⟨rfl,⟨nd,rfl⟩⟩;(try first|exact ⟨rfl,_,World.drewN_drewN _ _ _⟩|exact ⟨rfl,_,Eq.trans (World.drewN_drewN _ _ _) (congrArg (World.drewN _) (Nat.add_assoc _ _ _))⟩);have hcz10_0:w5.cell? ⟨gb353,0,none⟩ = some (.slice A0_0 l0_0.length c0_0):=(blk_cell BK353.out 0).trans rfl;have hfz10_0:=blk_frozen BK353.out 0));try go_wp2_with (first|(go_at_call 83;(with_reducible refine (spec_l1In.calls a1_0 1 3 true _ A6.out).mono ?_);rintro e w' ⟨rfl,⟨nd,rfl⟩⟩;(try first|exact ⟨rfl,_,World.drewN_drewN _ _ _⟩|exact ⟨rfl,_,Eq.trans (World.drewN_drewN _ _ _) (congrArg (World.drewN _) (Nat.add_assoc _ _ _))⟩);have hcz10_0:w5.cell? ⟨gb353,0,none⟩ = some (.slice A0_0 l0_0.length c0_0):=(blk_cell BK353.out 0).trans rfl;have hfz10_0:=blk_frozen BK353.out 0)))
   go_meet
   case rel=>exact ⟨_,(((l1_1.length:Int) != (l0_0.length:Int))),Ye,H',⟨by first|omega|exact Nat.le_refl _⟩,⟨YQ⟩,⟨YP⟩,⟨bH⟩⟩
  ·replace c7:=Bool.eq_false_iff.mpr c7
   subst c7
   have H1:(spec_l5World.j0 k true l0_0 a1_0 l1_1) = some r:=by rw [if_neg (show ¬ (false = true) by decide)] at H;exact H
   clear H
   have H:=H1
   clear H1
   have H':=Aside0.mk H
   clear H
   have hnb11:=NB354_353.out
   have hnc11:=NB353_354.out
   have hcz12_0:w5.cell? ⟨gb354,0,none⟩ = some (.int .i64 a1_0):=(blk_cell BK354.out 0).trans rfl
   have hcz12_1:w5.cell? ⟨gb354,1,none⟩ = some (.slice A1_1 l1_1.length c1_1):=(blk_cell BK354.out 1).trans rfl
   have hfz12_0:=blk_frozen BK354.out 0
   have hfz12_1:=blk_frozen BK354.out 1
   go_wp2_with (first|(go_at_call 83;(with_reducible refine (spec_l1In.calls a1_0 1 3 false _ A6.out).mono ?_);rintro e w' ⟨rfl,⟨nd,rfl⟩⟩;(try first|exact ⟨rfl,_,World.drewN_drewN _ _ _⟩|exact ⟨rfl,_,Eq.trans (World.drewN_drewN _ _ _) (congrArg (World.drewN _) (Nat.add_assoc _ _ _))⟩)))
   repeat (go_quiet (first|(go_at_call 83;(with_reducible refine (spec_l1In.calls a1_0 1 3 false _ A6.out).mono ?_);rintro e w' ⟨rfl,⟨nd,rfl⟩⟩;(try first|exact ⟨rfl,_,World.drewN_drewN _ _ _⟩|exact ⟨rfl,_,Eq.trans (World.drewN_drewN _ _ _) (congrArg (World.drewN _) (Nat.add_assoc _ _ _))⟩)));try go_wp2_with (first|(go_at_call 83;(with_reducible refine (spec_l1In.calls a1_0 1 3 false _ A6.out).mono ?_);rintro e w' ⟨rfl,⟨nd,rfl⟩⟩;(try first|exact ⟨rfl,_,World.drewN_drewN _ _ _⟩|exact ⟨rfl,_,Eq.trans (World.drewN_drewN _ _ _) (congrArg (World.drewN _) (Nat.add_assoc _ _ _))⟩))))
   go_meet
   case rel=>exact ⟨_,(true),Ye,H',⟨by first|omega|exact Nat.le_refl _⟩,⟨YQ⟩,⟨YP⟩,⟨bH⟩⟩
 case rest =>
  clear HC3
  try clear c1
  try clear p2
  try clear c5
  try clear c7
  try clear c8
  try clear c11
  try clear hcz10_0
  try clear hcz12_0
  try clear hcz12_1
  try clear hcz9_0
  try clear hcz9_1
  try clear hfz10_0
  try clear hfz12_0
  try clear hfz12_1
  try clear hfz9_0
  try clear hfz9_1
  obtain ⟨kq,x19_2,rfl,HA,HJ2,BK353,BK354,HB⟩:=hcut
  cases kq with
  | zero=>exact absurd HA.out (by simp [spec_l5World.j0])
  | succ kj2 =>
   have H:=HA.out
   clear HA
   simp only [spec_l5World.j0] at H
   by_cases c13:x19_2 = true
   ·subst c13
    have H1:(some false) = some r:=by rw [if_pos rfl] at H;exact H
    clear H
    have H:=H1
    clear H1
    obtain rfl:=Option.some.inj H
    go_wp2
    repeat (go_quiet (fail);try go_wp2)
    go_ret
    exact ⟨Yb,bH⟩
   ·replace c13:=Bool.eq_false_iff.mpr c13
    subst c13
    have H1:(spec_l5World.l0 kj2 l1_1 (l1_1.length:Int) 0 l0_0 a1_0 l1_1) = some r:=by rw [if_neg (show ¬ (false = true) by decide)] at H;exact H
    clear H
    have H:=H1
    clear H1
    have H':=Aside0.mk H
    clear H
    have hnb14:=NB354_353.out
    have hnc14:=NB353_354.out
    have hcz15_0:wc.cell? ⟨gb354,0,none⟩ = some (.int .i64 a1_0):=(blk_cell BK354.out 0).trans rfl
    have hcz15_1:wc.cell? ⟨gb354,1,none⟩ = some (.slice A1_1 l1_1.length c1_1):=(blk_cell BK354.out 1).trans rfl
    have hfz15_0:=blk_frozen BK354.out 0
    have hfz15_1:=blk_frozen BK354.out 1
    go_wp2
    repeat (go_quiet (fail);try go_wp2)
    go_loopg [23] kj2 (fun kq v23 w'=>∃ (x23_2:Int),v23 = .int .i64 x23_2 ∧ Aside0 (spec_l5World.l0 kq l1_1 (l1_1.length:Int) x23_2 l0_0 a1_0 l1_1 = some r) ∧ Aside0 (kq ≤ kj2) ∧ Aside0 (w'.heap[gb353]? = some (.cells #[(.slice A0_0 l0_0.length c0_0)] 26 (0,0))) ∧ Aside0 (w'.heap[gb354]? = some (.cells #[.int .i64 a1_0,(.slice A1_1 l1_1.length c1_1)] 31 (0,0))) ∧ Aside0 (Below w.heap.size w w'))
    case atStart=>exact ⟨(0),Ye,H',⟨Nat.le_refl _⟩,⟨YQ⟩,⟨YP⟩,⟨bH⟩⟩
    case round =>
     clear H'
     try clear c1
     try clear p2
     try clear c5
     try clear c7
     try clear c8
     try clear c11
     try clear c13
     try clear c14
     try clear hcz10_0
     try clear hcz12_0
     try clear hcz12_1
     try clear hcz15_0
     try clear hcz15_1
     try clear hcz9_0
     try clear hcz9_1
     try clear hfz10_0
     try clear hfz12_0
     try clear hfz12_1
     try clear hfz15_0
     try clear hfz15_1
     try clear hfz9_0
     try clear hfz9_1
     try clear p2
     obtain ⟨x23_2,rfl,HA,HK2,BK353,BK354,HB⟩:=hrel
     cases gk with
     | zero=>exact absurd HA.out (by simp [spec_l5World.l0])
     | succ k2 =>
      have H:=HA.out
      clear HA
      simp only [spec_l5World.l0] at H
      by_cases c16:x23_2 < (l1_1.length:Int)
      ·rw [if_pos c16] at H
       have c16b0:=decide_eq_true c16
       clear c16
       by_cases c17:0 ≤ x23_2
       ·rw [if_pos c17] at H
        have c17b0:=decide_eq_true c17
        clear c17
        by_cases c18:x23_2 < (l1_1.length:Int)
        ·rw [if_pos c18] at H
         have c18b0:=decide_eq_true c18
         clear c18
         by_cases c19:x23_2 < (l0_0.length:Int)
         ·rw [if_pos c19] at H
          have c19b0:=decide_eq_true c19
          clear c19
          replace H:=Option.bind_eq_some_iff.mp H
          obtain ⟨t358,A200,H⟩:=H
          replace H:(if ((rd_L2 l1_1 x23_2).length:Int) = t358 then ((spec_l1All.f k2 (rd_L2 l1_1 x23_2) 0 (wrap64 (a1_0 - 1))).bind fun t359=>(if t359 = true then (spec_l5World.l0 k2 l1_1 (l1_1.length:Int) (wrap64 (x23_2 + 1)) l0_0 a1_0 l1_1) else (some false))) else (some false)) = some r:=H
          have A20:=Aside0.mk A200
          clear A200
          by_cases c21:((rd_L2 l1_1 x23_2).length:Int) = t358
          ·rw [if_pos c21] at H
           have c21b0:(((rd_L2 l1_1 x23_2).length:Int) == t358) = true:=beq_iff_eq.mpr c21
           have c21b1:(((rd_L2 l1_1 x23_2).length:Int) != t358) = false:=bne_eq_false_iff_eq.mpr c21
           clear c21
           replace H:=Option.bind_eq_some_iff.mp H
           obtain ⟨t359,A220,H⟩:=H
           replace H:(if t359 = true then (spec_l5World.l0 k2 l1_1 (l1_1.length:Int) (wrap64 (x23_2 + 1)) l0_0 a1_0 l1_1) else (some false)) = some r:=H
           have A22:=Aside0.mk A220
           clear A220
           by_cases c23:t359 = true
           ·subst c23
            have H1:(spec_l5World.l0 k2 l1_1 (l1_1.length:Int) (wrap64 (x23_2 + 1)) l0_0 a1_0 l1_1) = some r:=by rw [if_pos rfl] at H;exact H
            clear H
            have H:=H1
            clear H1
            have H':=Aside0.mk H
            clear H
            have p356:0 ≤ (x23_2:Int):=oD
            have q356:x23_2 < (l1_1.length:Int):=oD
            obtain ⟨ad356,A356_0,c356_0,e356,hx356_0,hl356_0,hi356_0⟩:=at_L2 HR1_1.out x23_2 p356 q356
            cases e356
            replace hx356_0:=(HB.out.cell (World.block_lt_of_cell? w _ hx356_0)).trans hx356_0
            have HR356_0:=Aside0.mk hi356_0
            have HC356_0:=Aside0.mk hl356_0
            clear hi356_0 hl356_0
            replace p356:=eq_true p356
            replace q356:=eq_true q356
            have hnb24:=NB354_353.out
            have hnc24:=NB353_354.out
            have hcz25_0:wr.cell? ⟨gb354,0,none⟩ = some (.int .i64 a1_0):=(blk_cell BK354.out 0).trans rfl
            have hcz25_1:wr.cell? ⟨gb354,1,none⟩ = some (.slice (some ad356) l1_1.length c1_1):=(blk_cell BK354.out 1).trans rfl
            have hfz25_0:=blk_frozen BK354.out 0
            have hfz25_1:=blk_frozen BK354.out 1
            have hcz26_0:wr.cell? ⟨gb353,0,none⟩ = some (.slice A0_0 l0_0.length c0_0):=(blk_cell BK353.out 0).trans rfl
            have hfz26_0:=blk_frozen BK353.out 0
            have p357:0 ≤ (x23_2:Int):=oD
            have q357:x23_2 < (l0_0.length:Int):=oD
            obtain ⟨ad357,e357,hx357_0⟩:=Kd.at_int HR0_0.out x23_2 p357 q357
            cases e357
            replace hx357_0:=(HB.out.cell (World.block_lt_of_cell? w _ hx357_0)).trans hx357_0
            replace p357:=eq_true p357
            replace q357:=eq_true q357
            go_wp2_with (first|(go_at_call 81;(with_reducible refine (spec_l5Long.calls k2 a1_0 (rd l0_0 x23_2) t358 _ A20.out).mono ?_);rintro e w' ⟨rfl,⟨nd,rfl⟩⟩;(try first|exact ⟨rfl,_,World.drewN_drewN _ _ _⟩|exact ⟨rfl,_,Eq.trans (World.drewN_drewN _ _ _) (congrArg (World.drewN _) (Nat.add_assoc _ _ _))⟩))|(go_at_call 85;(with_reducible refine (spec_l1All.calls k2 _ _ (rd_L2 l1_1 x23_2) 0 (wrap64 (a1_0 - 1)) true _ ?side1 ?side2 A22.out).mono ?_);(case side1=>repeat (first|exact (Kd.C_below HR356_0.out bH)|(with_reducible refine Kd.C_alloc ?_ _)|(with_reducible refine Kd.C_drewN ?_ _)|(with_reducible refine Kd.C_drew ?_)));(case side2=>exact HC356_0.out);rintro e w' ⟨rfl,⟨nd,rfl⟩⟩;(try first|exact ⟨rfl,_,World.drewN_drewN _ _ _⟩|exact ⟨rfl,_,Eq.trans (World.drewN_drewN _ _ _) (congrArg (World.drewN _) (Nat.add_assoc _ _ _))⟩)))
            repeat (go_quiet (first|(go_at_call 81;(with_reducible refine (spec_l5Long.calls k2 a1_0 (rd l0_0 x23_2) t358 _ A20.out).mono ?_);rintro e w' ⟨rfl,⟨nd,rfl⟩⟩;(try first|exact ⟨rfl,_,World.drewN_drewN _ _ _⟩|exact ⟨rfl,_,Eq.trans (World.drewN_drewN _ _ _) (congrArg (World.drewN _) (Nat.add_assoc _ _ _))⟩))|(go_at_call 85;(with_reducible refine (spec_l1All.calls k2 _ _ (rd_L2 l1_1 x23_2) 0 (wrap64 (a1_0 - 1)) true _ ?side1 ?side2 A22.out).mono ?_);(case side1=>repeat (first|exact (Kd.C_below HR356_0.out bH)|(with_reducible refine Kd.C_alloc ?_ _)|(with_reducible refine Kd.C_drewN ?_ _)|(with_reducible refine Kd.C_drew ?_)));(case side2=>exact HC356_0.out);rintro e w' ⟨rfl,⟨nd,rfl⟩⟩;(try first|exact ⟨rfl,_,World.drewN_drewN _ _ _⟩|exact ⟨rfl,_,Eq.trans (World.drewN_drewN _ _ _) (congrArg (World.drewN _) (Nat.add_assoc _ _ _))⟩)));try go_wp2_with (first|(go_at_call 81;(with_reducible refine (spec_l5Long.calls k2 a1_0 (rd l0_0 x23_2) t358 _ A20.out).mono ?_);rintro e w' ⟨rfl,⟨nd,rfl⟩⟩;(try first|exact ⟨rfl,_,World.drewN_drewN _ _ _⟩|exact ⟨rfl,_,Eq.trans (World.drewN_drewN _ _ _) (congrArg (World.drewN _) (Nat.add_assoc _ _ _))⟩))|(go_at_call 85;(with_reducible refine (spec_l1All.calls k2 _ _ (rd_L2 l1_1 x23_2) 0 (wrap64 (a1_0 - 1)) true _ ?side1 ?side2 A22.out).mono ?_);(case side1=>repeat (first|exact (Kd.C_below HR356_0.out bH)|(with_reducible refine Kd.C_alloc ?_ _)|(with_reducible refine Kd.C_drewN ?_ _)|(with_reducible refine Kd.C_drew ?_)));(case side2=>exact HC356_0.out);rintro e w' ⟨rfl,⟨nd,rfl⟩⟩;(try first|exact ⟨rfl,_,World.drewN_drewN _ _ _⟩|exact ⟨rfl,_,Eq.trans (World.drewN_drewN _ _ _) (congrArg (World.drewN _) (Nat.add_assoc _ _ _))⟩))))
            go_roundg k2
            case measure=>have:=HJ2.out;have:=HK2.out;omega
            case rel=>exact ⟨(wrap64 (x23_2 + 1)),Ye,H',⟨by have:=HJ2.out;have:=HK2.out;omega⟩,⟨YQ⟩,⟨YP⟩,⟨bH⟩⟩
           ·replace c23:=Bool.eq_false_iff.mpr c23
            subst c23
            have H1:(some false) = some r:=by rw [if_neg (show ¬ (false = true) by decide)] at H;exact H
            clear H
            have H:=H1
            clear H1
            obtain rfl:=Option.some.inj H
            have p356:0 ≤ (x23_2:Int):=oD
            have q356:x23_2 < (l1_1.length:Int):=oD
            obtain ⟨ad356,A356_0,c356_0,e356,hx356_0,hl356_0,hi356_0⟩:=at_L2 HR1_1.out x23_2 p356 q356
            cases e356
            replace hx356_0:=(HB.out.cell (World.block_lt_of_cell? w _ hx356_0)).trans hx356_0
            have HR356_0:=Aside0.mk hi356_0
            have HC356_0:=Aside0.mk hl356_0
            clear hi356_0 hl356_0
            replace p356:=eq_true p356
            replace q356:=eq_true q356
            have hnb27:=NB354_353.out
            have hnc27:=NB353_354.out
            have hcz28_0:wr.cell? ⟨gb354,0,none⟩ = some (.int .i64 a1_0):=(blk_cell BK354.out 0).trans rfl
            have hcz28_1:wr.cell? ⟨gb354,1,none⟩ = some (.slice (some ad356) l1_1.length c1_1):=(blk_cell BK354.out 1).trans rfl
            have hfz28_0:=blk_frozen BK354.out 0
            have hfz28_1:=blk_frozen BK354.out 1
            have hcz29_0:wr.cell? ⟨gb353,0,none⟩ = some (.slice A0_0 l0_0.length c0_0):=(blk_cell BK353.out 0).trans rfl
            have hfz29_0:=blk_frozen BK353.out 0
            have p357:0 ≤ (x23_2:Int):=oD
            have q357:x23_2 < (l0_0.length:Int):=oD
            obtain ⟨ad357,e357,hx357_0⟩:=Kd.at_int HR0_0.out x23_2 p357 q357
            cases e357
            replace hx357_0:=(HB.out.cell (World.block_lt_of_cell? w _ hx357_0)).trans hx357_0
            replace p357:=eq_true p357
            replace q357:=eq_true q357
            go_wp2_with (first|(go_at_call 81;(with_reducible refine (spec_l5Long.calls k2 a1_0 (rd l0_0 x23_2) t358 _ A20.out).mono ?_);rintro e w' ⟨rfl,⟨nd,rfl⟩⟩;(try first|exact ⟨rfl,_,World.drewN_drewN _ _ _⟩|exact ⟨rfl,_,Eq.trans (World.drewN_drewN _ _ _) (congrArg (World.drewN _) (Nat.add_assoc _ _ _))⟩))|(go_at_call 85;(with_reducible refine (spec_l1All.calls k2 _ _ (rd_L2 l1_1 x23_2) 0 (wrap64 (a1_0 - 1)) false _ ?side1 ?side2 A22.out).mono ?_);(case side1=>repeat (first|exact (Kd.C_below HR356_0.out bH)|(with_reducible refine Kd.C_alloc ?_ _)|(with_reducible refine Kd.C_drewN ?_ _)|(with_reducible refine Kd.C_drew ?_)));(case side2=>exact HC356_0.out);rintro e w' ⟨rfl,⟨nd,rfl⟩⟩;(try first|exact ⟨rfl,_,World.drewN_drewN _ _ _⟩|exact ⟨rfl,_,Eq.trans (World.drewN_drewN _ _ _) (congrArg (World.drewN _) (Nat.add_assoc _ _ _))⟩)))
            repeat (go_quiet (first|(go_at_call 81;(with_reducible refine (spec_l5Long.calls k2 a1_0 (rd l0_0 x23_2) t358 _ A20.out).mono ?_);rintro e w' ⟨rfl,⟨nd,rfl⟩⟩;(try first|exact ⟨rfl,_,World.drewN_drewN _ _ _⟩|exact ⟨rfl,_,Eq.trans (World.drewN_drewN _ _ _) (congrArg (World.drewN _) (Nat.add_assoc _ _ _))⟩))|(go_at_call 85;(with_reducible refine (spec_l1All.calls k2 _ _ (rd_L2 l1_1 x23_2) 0 (wrap64 (a1_0 - 1)) false _ ?side1 ?side2 A22.out).mono ?_);(case side1=>repeat (first|exact (Kd.C_below HR356_0.out bH)|(with_reducible refine Kd.C_alloc ?_ _)|(with_reducible refine Kd.C_drewN ?_ _)|(with_reducible refine Kd.C_drew ?_)));(case side2=>exact HC356_0.out);rintro e w' ⟨rfl,⟨nd,rfl⟩⟩;(try first|exact ⟨rfl,_,World.drewN_drewN _ _ _⟩|exact ⟨rfl,_,Eq.trans (World.drewN_drewN _ _ _) (congrArg (World.drewN _) (Nat.add_assoc _ _ _))⟩)));try go_wp2_with (first|(go_at_call 81;(with_reducible refine (spec_l5Long.calls k2 a1_0 (rd l0_0 x23_2) t358 _ A20.out).mono ?_);rintro e w' ⟨rfl,⟨nd,rfl⟩⟩;(try first|exact ⟨rfl,_,World.drewN_drewN _ _ _⟩|exact ⟨rfl,_,Eq.trans (World.drewN_drewN _ _ _) (congrArg (World.drewN _) (Nat.add_assoc _ _ _))⟩))|(go_at_call 85;(with_reducible refine (spec_l1All.calls k2 _ _ (rd_L2 l1_1 x23_2) 0 (wrap64 (a1_0 - 1)) false _ ?side1 ?side2 A22.out).mono ?_);(case side1=>repeat (first|exact (Kd.C_below HR356_0.out bH)|(with_reducible refine Kd.C_alloc ?_ _)|(with_reducible refine Kd.C_drewN ?_ _)|(with_reducible refine Kd.C_drew ?_)));(case side2=>exact HC356_0.out);rintro e w' ⟨rfl,⟨nd,rfl⟩⟩;(try first|exact ⟨rfl,_,World.drewN_drewN _ _ _⟩|exact ⟨rfl,_,Eq.trans (World.drewN_drewN _ _ _) (congrArg (World.drewN _) (Nat.add_assoc _ _ _))⟩))))
            go_ret
            exact ⟨Yb,bH⟩
          ·rw [if_neg c21] at H
           have c21b0:(((rd_L2 l1_1 x23_2).length:Int) == t358) = false:=beq_eq_false_iff_ne.mpr c21
           have c21b1:(((rd_L2 l1_1 x23_2).length:Int) != t358) = true:=bne_iff_ne.mpr c21
           obtain rfl:=Option.some.inj H
           have p356:0 ≤ (x23_2:Int):=oD
           have q356:x23_2 < (l1_1.length:Int):=oD
           obtain ⟨ad356,A356_0,c356_0,e356,hx356_0,hl356_0,hi356_0⟩:=at_L2 HR1_1.out x23_2 p356 q356
           cases e356
           replace hx356_0:=(HB.out.cell (World.block_lt_of_cell? w _ hx356_0)).trans hx356_0
           have HR356_0:=Aside0.mk hi356_0
           have HC356_0:=Aside0.mk hl356_0
           clear hi356_0 hl356_0
           replace p356:=eq_true p356
           replace q356:=eq_true q356
           have hnb30:=NB354_353.out
           have hnc30:=NB353_354.out
           have hcz31_0:wr.cell? ⟨gb354,0,none⟩ = some (.int .i64 a1_0):=(blk_cell BK354.out 0).trans rfl
           have hcz31_1:wr.cell? ⟨gb354,1,none⟩ = some (.slice (some ad356) l1_1.length c1_1):=(blk_cell BK354.out 1).trans rfl
           have hfz31_0:=blk_frozen BK354.out 0
           have hfz31_1:=blk_frozen BK354.out 1
           have hcz32_0:wr.cell? ⟨gb353,0,none⟩ = some (.slice A0_0 l0_0.length c0_0):=(blk_cell BK353.out 0).trans rfl
           have hfz32_0:=blk_frozen BK353.out 0
           have p357:0 ≤ (x23_2:Int):=oD
           have q357:x23_2 < (l0_0.length:Int):=oD
           obtain ⟨ad357,e357,hx357_0⟩:=Kd.at_int HR0_0.out x23_2 p357 q357
           cases e357
           replace hx357_0:=(HB.out.cell (World.block_lt_of_cell? w _ hx357_0)).trans hx357_0
           replace p357:=eq_true p357
           replace q357:=eq_true q357
           go_wp2_with (first|(go_at_call 81;(with_reducible refine (spec_l5Long.calls k2 a1_0 (rd l0_0 x23_2) t358 _ A20.out).mono ?_);rintro e w' ⟨rfl,⟨nd,rfl⟩⟩;(try first|exact ⟨rfl,_,World.drewN_drewN _ _ _⟩|exact ⟨rfl,_,Eq.trans (World.drewN_drewN _ _ _) (congrArg (World.drewN _) (Nat.add_assoc _ _ _))⟩)))
           repeat (go_quiet (first|(go_at_call 81;(with_reducible refine (spec_l5Long.calls k2 a1_0 (rd l0_0 x23_2) t358 _ A20.out).mono ?_);rintro e w' ⟨rfl,⟨nd,rfl⟩⟩;(try first|exact ⟨rfl,_,World.drewN_drewN _ _ _⟩|exact ⟨rfl,_,Eq.trans (World.drewN_drewN _ _ _) (congrArg (World.drewN _) (Nat.add_assoc _ _ _))⟩)));try go_wp2_with (first|(go_at_call 81;(with_reducible refine (spec_l5Long.calls k2 a1_0 (rd l0_0 x23_2) t358 _ A20.out).mono ?_);rintro e w' ⟨rfl,⟨nd,rfl⟩⟩;(try first|exact ⟨rfl,_,World.drewN_drewN _ _ _⟩|exact ⟨rfl,_,Eq.trans (World.drewN_drewN _ _ _) (congrArg (World.drewN _) (Nat.add_assoc _ _ _))⟩))))
           go_ret
           exact ⟨Yb,bH⟩
         ·rw [if_neg c19] at H
          exact absurd H (by simp)
        ·rw [if_neg c18] at H
         exact absurd H (by simp)
       ·rw [if_neg c17] at H
        exact absurd H (by simp)
      ·rw [if_neg c16] at H
       have c16b0:decide (x23_2 < (l1_1.length:Int)) = false:=decide_eq_false c16
       clear c16
       obtain rfl:=Option.some.inj H
       go_wp2
       repeat (go_quiet (fail);try go_wp2)
       go_ret
       exact ⟨Yb,bH⟩

/-! ### spec_GoodWorld: function 17 -/
def spec_GoodWorld.f (k:Nat) (l0_0:List Int) (a1_0:Int) (l1_1:List (List Int)):Option (Bool):=(spec_GoodSign.f k l0_0).bind fun t362=>(if t362 = true then ((spec_l5World.f k l0_0 a1_0 l1_1).bind fun t363=>(some t363)) else (some false))
theorem spec_GoodWorld.mono:∀ a0 a1 a2 k,LeO (spec_GoodWorld.f k a0 a1 a2) (spec_GoodWorld.f (k + 1) a0 a1 a2):=by
 intro a0 a1 a2 k
 unfold spec_GoodWorld.f
 have m0:=@spec_GoodSign.mono
 have m1:=@spec_l5World.mono
 exact mO
set_option maxHeartbeats 8000000 in
set_option maxRecDepth 100000 in
theorem spec_GoodWorld.calls (k:Nat) (A0_0:Option Addr) (c0_0:Nat) (l0_0:List Int) (a1_0:Int) (A1_1:Option Addr) (c1_1:Nat) (l1_1:List (List Int)) (r:Bool) (w:World) (hr0_0:Kd.C (Kd.int .i64) w A0_0 l0_0.length l0_0) (hc0_0:l0_0.length ≤ c0_0) (hr1_1:Kd.C (Kd.slice 3 (Kd.int .i64)) w A1_1 l1_1.length l1_1) (hc1_1:l1_1.length ≤ c1_1) (h:spec_GoodWorld.f k l0_0 a1_0 l1_1 = some r) :
  Calls Try.prog 17 #[.agg #[.slice A0_0 l0_0.length c0_0],.agg #[.int .i64 a1_0,.slice A1_1 l1_1.length c1_1]] w fun e w'=>e = .returned (.bool r) ∧ Below w.heap.size w w':=by
 have hu26:=Try.underlying26
 have hu31:=Try.underlying31
 have HR0_0:=Aside0.mk hr0_0
 have HC0_0:=Aside0.mk hc0_0
 clear hr0_0 hc0_0
 have HR1_1:=Aside0.mk hr1_1
 have HC1_1:=Aside0.mk hc1_1
 clear hr1_1 hc1_1
 have HB:=Aside0.mk (Below.refl w.heap.size w)
 have H:((spec_GoodSign.f k l0_0).bind fun t362=>(if t362 = true then ((spec_l5World.f k l0_0 a1_0 l1_1).bind fun t363=>(some t363)) else (some false))) = some r:=h
 clear h
 replace H:=Option.bind_eq_some_iff.mp H
 obtain ⟨t362,A30,H⟩:=H
 replace H:(if t362 = true then ((spec_l5World.f k l0_0 a1_0 l1_1).bind fun t363=>(some t363)) else (some false)) = some r:=H
 have A3:=Aside0.mk A30
 clear A30
 by_cases c4:t362 = true
 ·subst c4
  have H1:((spec_l5World.f k l0_0 a1_0 l1_1).bind fun t363=>(some t363)) = some r:=by rw [if_pos rfl] at H;exact H
  clear H
  have H:=H1
  clear H1
  replace H:=Option.bind_eq_some_iff.mp H
  obtain ⟨t363,A50,H⟩:=H
  replace H:(some t363) = some r:=H
  have A5:=Aside0.mk A50
  clear A50
  obtain rfl:=Option.some.inj H
  go_enter Try.func17,Try.ntmps17
  go_wp2_with (first|((with_reducible refine gate_dst (N:=2) rfl ?_);refine box_event ?hg (N:=2) ?hd (cs:=#[.slice A0_0 l0_0.length c0_0]) (t:=26) ?hr ?_;(case hd=>rfl);(case hg=>rfl);(case hr=>exact Yd);intro gb360 hg w6 hbox hb;have BK360:=Aside0.mk (hbox);have GW360:=Aside0.mk ((hZ:w.heap.size ≤ gb360));have GE360:=Aside0.mk ((hZ:w.heap.size ≤ gb360));replace HB:=Aside0.mk (below_step bH hb);clear hb hbox hg)|((with_reducible refine gate_dst (N:=3) rfl ?_);refine box_event ?hg (N:=3) ?hd (cs:=#[.int .i64 a1_0,.slice A1_1 l1_1.length c1_1]) (t:=31) ?hr ?_;(case hd=>rfl);(case hg=>rfl);(case hr=>exact Yd);intro gb361 hg w7 hbox hb;have BK361:=Aside0.mk (hbox);have GW361:=Aside0.mk ((hZ:w.heap.size ≤ gb361));have GE361:=Aside0.mk ((hZ:w.heap.size ≤ gb361));replace HB:=Aside0.mk (below_step bH hb);have NB360_361:=Aside0.mk ((nL BK360:gb360 ≠ gb361));have NB361_360:=Aside0.mk ((nG BK360:gb361 ≠ gb360));replace BK360:=Aside0.mk (blk_below (bB BK360) hb);clear hb hbox hg;have hnb8:=NB360_361.out;have hnc8:=NB361_360.out;have hcz9_0:w7.cell? ⟨gb360,0,none⟩ = some (.slice A0_0 l0_0.length c0_0):=(blk_cell BK360.out 0).trans rfl;have hfz9_0:=blk_frozen BK360.out 0)|((with_reducible refine gate_callee (f:=56) rfl ?_);refine goesL_ (some 6) rfl rfl Try.func56 (by kernel_rfl) rfl #[.agg #[.slice A0_0 l0_0.length c0_0]] rfl Ya ?_;(with_reducible refine (spec_GoodSign.calls k _ _ l0_0 true _ ?side1 ?side2 A3.out).mono ?_);(case side1=>exact Yv);(case side2=>exact Yu);rintro e w10 ⟨rfl,hb⟩;refine ⟨_,rfl,?_⟩;replace BK360:=Aside0.mk (blk_below (bB BK360) hb);replace BK361:=Aside0.mk (blk_below (bB BK361) hb);replace HB:=Aside0.mk (below_step bH hb);(try clear hb);(try clear hb2);(try clear hk);(try clear hi);have hcz11_0:w10.cell? ⟨gb360,0,none⟩ = some (.slice A0_0 l0_0.length c0_0):=(blk_cell BK360.out 0).trans rfl;have hfz11_0:=blk_frozen BK360.out 0;have hcz12_0:w10.cell? ⟨gb361,0,none⟩ = some (.int .i64 a1_0):=(blk_cell BK361.out 0).trans rfl;have hcz12_1:w10.cell? ⟨gb361,1,none⟩ = some (.slice A1_1 l1_1.length c1_1):=(blk_cell BK361.out 1).trans rfl;have hfz12_0:=blk_frozen BK361.out 0;have hfz12_1:=blk_frozen BK361.out 1)|(go_at_call 57;(with_reducible refine (spec_l5World.calls k _ _ l0_0 a1_0 _ _ l1_1 t363 _ ?side1 ?side2 ?side3 ?side4 A5.out).mono ?_);(case side1=>exact Yv);(case side2=>exact Yu);(case side3=>exact YN);(case side4=>exact YK);rintro e w13 ⟨rfl,hb⟩;replace BK360:=Aside0.mk (blk_below (bB BK360) hb);replace BK361:=Aside0.mk (blk_below (bB BK361) hb);replace HB:=Aside0.mk (below_step bH hb);(try clear hb);(try clear hb2);(try clear hk);(try clear hi)))
  go_ret
  exact ⟨Yb,bH⟩
 ·replace c4:=Bool.eq_false_iff.mpr c4
  subst c4
  have H1:(some false) = some r:=by rw [if_neg (show ¬ (false = true) by decide)] at H;exact H
  clear H
  have H:=H1
  clear H1
  obtain rfl:=Option.some.inj H
  go_enter Try.func17,Try.ntmps17
  go_wp2_with (first|((with_reducible refine gate_dst (N:=2) rfl ?_);refine box_event ?hg (N:=2) ?hd (cs:=#[.slice A0_0 l0_0.length c0_0]) (t:=26) ?hr ?_;(case hd=>rfl);(case hg=>rfl);(case hr=>exact Yd);intro gb360 hg w14 hbox hb;have BK360:=Aside0.mk (hbox);have GW360:=Aside0.mk ((hZ:w.heap.size ≤ gb360));have GE360:=Aside0.mk ((hZ:w.heap.size ≤ gb360));replace HB:=Aside0.mk (below_step bH hb);clear hb hbox hg)|((with_reducible refine gate_dst (N:=3) rfl ?_);refine box_event ?hg (N:=3) ?hd (cs:=#[.int .i64 a1_0,.slice A1_1 l1_1.length c1_1]) (t:=31) ?hr ?_;(case hd=>rfl);(case hg=>rfl);(case hr=>exact Yd);intro gb361 hg w15 hbox hb;have BK361:=Aside0.mk (hbox);have GW361:=Aside0.mk ((hZ:w.heap.size ≤ gb361));have GE361:=Aside0.mk ((hZ:w.heap.size ≤ gb361));replace HB:=Aside0.mk (below_step bH hb);have NB360_361:=Aside0.mk ((nL BK360:gb360 ≠ gb361));have NB361_360:=Aside0.mk ((nG BK360:gb361 ≠ gb360));replace BK360:=Aside0.mk (blk_below (bB BK360) hb);clear hb hbox hg;have hnb16:=NB360_361.out;have hnc16:=NB361_360.out;have hcz17_0:w15.cell? ⟨gb360,0,none⟩ = some (.slice A0_0 l0_0.length c0_0):=(blk_cell BK360.out 0).trans rfl;have hfz17_0:=blk_frozen BK360.out 0)|((with_reducible refine gate_callee (f:=56) rfl ?_);refine goesL_ (some 6) rfl rfl Try.func56 (by kernel_rfl) rfl #[.agg #[.slice A0_0 l0_0.length c0_0]] rfl Ya ?_;(with_reducible refine (spec_GoodSign.calls k _ _ l0_0 false _ ?side1 ?side2 A3.out).mono ?_);(case side1=>exact Yv);(case side2=>exact Yu);rintro e w18 ⟨rfl,hb⟩;refine ⟨_,rfl,?_⟩;replace BK360:=Aside0.mk (blk_below (bB BK360) hb);replace BK361:=Aside0.mk (blk_below (bB BK361) hb);replace HB:=Aside0.mk (below_step bH hb);(try clear hb);(try clear hb2);(try clear hk);(try clear hi)))
  go_ret
  exact ⟨Yb,bH⟩

/-! ### spec_l1End: function 84 -/
mutual
def spec_l1End.l0:Nat → List Int → Int → Int → List Int → Option (Int)
 | 0,_,_,_,_=>none
 | k + 1,x1,x2,x7,x365000=>if x7 > 0 then (if x2 ≥ (x1.length:Int) then (spec_l1End.j1 k x1 x2 x7 true x365000) else (if 0 ≤ x2 then (if x2 < (x1.length:Int) then ((spec_l1In.f (rd x1 x2) (-12) (wrap64 ((x365000.length:Int) - 1))).bind fun t366=>(spec_l1End.j1 k x1 x2 x7 (!t366) x365000)) else (none)) else (none))) else (some x2)
def spec_l1End.j1:Nat → List Int → Int → Int → Bool → List Int → Option (Int)
 | 0,_,_,_,_,_=>none
 | k + 1,x1,x2,x7,x25,x365000=>if x25 = true then (some (-1)) else (if 0 ≤ x2 then (if x2 < (x1.length:Int) then (if (rd x1 x2) ≥ 0 then (if 0 ≤ (rd x1 x2) then (if (rd x1 x2) < (x365000.length:Int) then (spec_l1End.l0 k x1 (wrap64 (x2 + 1)) (wrap64 ((wrap64 (x7 - 1)) + (rd x365000 (rd x1 x2)))) x365000) else (none)) else (none)) else (spec_l1End.l0 k x1 (wrap64 (x2 + 1)) (wrap64 (x7 - 1)) x365000)) else (none)) else (none))
end
def spec_l1End.f (k:Nat) (l0_0:List Int) (l1:List Int) (a2:Int):Option (Int):=spec_l1End.l0 k l1 a2 1 l0_0
theorem spec_l1End.mono_l:∀ k,(∀ y0 y1 y2 y3,LeO (spec_l1End.l0 k y0 y1 y2 y3) (spec_l1End.l0 (k + 1) y0 y1 y2 y3)) ∧ (∀ y0 y1 y2 y3 y4,LeO (spec_l1End.j1 k y0 y1 y2 y3 y4) (spec_l1End.j1 (k + 1) y0 y1 y2 y3 y4))
 | 0=>⟨fun _ _ _ _ r h=>by simp [spec_l1End.l0] at h,fun _ _ _ _ _ r h=>by simp [spec_l1End.j1] at h⟩
 | k + 1=>by
  obtain ⟨ih0,ih1⟩:=spec_l1End.mono_l k
  refine ⟨?_,?_⟩
  ·intro y0 y1 y2 y3
   unfold spec_l1End.l0
   exact mO
  ·intro y0 y1 y2 y3 y4
   unfold spec_l1End.j1
   exact mO
theorem spec_l1End.mono:∀ a0 a1 a2 k,LeO (spec_l1End.f k a0 a1 a2) (spec_l1End.f (k + 1) a0 a1 a2):=by
 intro a0 a1 a2 k
 obtain ⟨ih0,ih1⟩:=spec_l1End.mono_l k
 unfold spec_l1End.f
 exact mO
set_option maxHeartbeats 8000000 in
set_option maxRecDepth 100000 in
theorem spec_l1End.calls (k:Nat) (A0_0:Option Addr) (c0_0:Nat) (l0_0:List Int) (A1:Option Addr) (c1:Nat) (l1:List Int) (a2:Int) (r:Int) (w:World) (hr0_0:Kd.C (Kd.int .i64) w A0_0 l0_0.length l0_0) (hc0_0:l0_0.length ≤ c0_0) (hr1:Kd.C (Kd.int .i64) w A1 l1.length l1) (hc1:l1.length ≤ c1) (h:spec_l1End.f k l0_0 l1 a2 = some r) :
  Calls Try.prog 84 #[.agg #[.slice A0_0 l0_0.length c0_0],.slice A1 l1.length c1,.int .i64 a2] w fun e w'=>e = .returned (.int .i64 r) ∧ Below w.heap.size w w':=by
 have hu26:=Try.underlying26
 have HR0_0:=Aside0.mk hr0_0
 have HC0_0:=Aside0.mk hc0_0
 clear hr0_0 hc0_0
 have HR1:=Aside0.mk hr1
 have HC1:=Aside0.mk hc1
 clear hr1 hc1
 have HB:=Aside0.mk (Below.refl w.heap.size w)
 have H:(spec_l1End.l0 k l1 a2 1 l0_0) = some r:=h
 clear h
 have H':=Aside0.mk H
 clear H
 go_enter Try.func84,Try.ntmps84
 go_wp2_with (first|((with_reducible refine gate_dst (N:=3) rfl ?_);(try (refine gate_guard (by rfl) ?_;dsimp only));refine box_event ?hg (N:=3) ?hd (cs:=#[.slice A0_0 l0_0.length c0_0]) (t:=26) ?hr ?_;(case hd=>rfl);(case hg=>rfl);(case hr=>exact Yd);intro gb364 hg w4 hbox hb;have BK364:=Aside0.mk (hbox);have GW364:=Aside0.mk ((hZ:w.heap.size ≤ gb364));have GE364:=Aside0.mk ((hZ:w.heap.size ≤ gb364));replace HB:=Aside0.mk (below_step bH hb);clear hb hbox hg))
 repeat (go_quiet (first|((with_reducible refine gate_dst (N:=3) rfl ?_);(try (refine gate_guard (by rfl) ?_;dsimp only));refine box_event ?hg (N:=3) ?hd (cs:=#[.slice A0_0 l0_0.length c0_0]) (t:=26) ?hr ?_;(case hd=>rfl);(case hg=>rfl);(case hr=>exact Yd);intro gb364 hg w4 hbox hb;have BK364:=Aside0.mk (hbox);have GW364:=Aside0.mk ((hZ:w.heap.size ≤ gb364));have GE364:=Aside0.mk ((hZ:w.heap.size ≤ gb364));replace HB:=Aside0.mk (below_step bH hb);clear hb hbox hg));try go_wp2_with (first|((with_reducible refine gate_dst (N:=3) rfl ?_);(try (refine gate_guard (by rfl) ?_;dsimp only));refine box_event ?hg (N:=3) ?hd (cs:=#[.slice A0_0 l0_0.length c0_0]) (t:=26) ?hr ?_;(case hd=>rfl);(case hg=>rfl);(case hr=>exact Yd);intro gb364 hg w4 hbox hb;have BK364:=Aside0.mk (hbox);have GW364:=Aside0.mk ((hZ:w.heap.size ≤ gb364));have GE364:=Aside0.mk ((hZ:w.heap.size ≤ gb364));replace HB:=Aside0.mk (below_step bH hb);clear hb hbox hg)))
 go_loopg [2,7] k (fun kq v2 v7 w'=>∃ (x2_1:Int) (x7_1:Int),v2 = .int .i64 x2_1 ∧ v7 = .int .i64 x7_1 ∧ Aside0 (spec_l1End.l0 kq l1 x2_1 x7_1 l0_0 = some r) ∧ Aside0 (kq ≤ k) ∧ Aside0 (w'.heap[gb364]? = some (.cells #[(.slice A0_0 l0_0.length c0_0)] 26 (0,0))) ∧ Aside0 (Below w.heap.size w w'))
 case atStart=>exact ⟨(a2),(1),Ye,Ye,H',⟨Nat.le_refl _⟩,⟨YH⟩,⟨bH⟩⟩
 case round =>
  clear H'
  try clear c1
  try clear p2
  obtain ⟨x2_1,x7_1,rfl,rfl,HA,HK1,BK364,HB⟩:=hrel
  cases gk with
  | zero=>exact absurd HA.out (by simp [spec_l1End.l0])
  | succ k1 =>
   have H:=HA.out
   clear HA
   simp only [spec_l1End.l0] at H
   by_cases c5:x7_1 > 0
   ·rw [if_pos c5] at H
    have c5b0:decide (0 < x7_1) = true:=decide_eq_true c5
    clear c5
    have HC6:=Aside0.mk H
    clear H
    go_upto_region 3 with (fail)
    repeat (go_quiet (fail);go_upto_region 3 with (fail))
    go_cut [25] (fun v25 wc=>∃ (kq:Nat) (x25_5:Bool),v25 = .bool x25_5 ∧ Aside0 (spec_l1End.j1 kq l1 x2_1 x7_1 x25_5 l0_0 = some r) ∧ Aside0 (kq ≤ k1) ∧ Aside0 (wc.heap[gb364]? = some (.cells #[(.slice A0_0 l0_0.length c0_0)] 26 (0,0))) ∧ Aside0 (Below w.heap.size w wc))
    case first =>
     have H:=HC6.out
     clear HC6
     by_cases c7:x2_1 ≥ (l1.length:Int)
     ·rw [if_pos c7] at H
      have c7b0:decide ((l1.length:Int) ≤ x2_1) = true:=decide_eq_true c7
      clear c7
      (first|rw [c7b0]|(simp only [i64_w,i32_w];rw [c7b0])|skip)
      have H':=Aside0.mk H
      clear H
      go_wp2
      repeat (go_quiet (fail);try go_wp2)
      go_meet
      case rel=>exact ⟨_,(true),Ye,H',⟨Zd⟩,⟨YH⟩,⟨bH⟩⟩
     ·rw [if_neg c7] at H
      have c7b0:decide ((l1.length:Int) ≤ x2_1) = false:=decide_eq_false c7
      clear c7
      (first|rw [c7b0]|(simp only [i64_w,i32_w];rw [c7b0])|skip)
      by_cases c8:0 ≤ x2_1
      ·rw [if_pos c8] at H
       have c8b0:=decide_eq_true c8
       clear c8
       by_cases c9:x2_1 < (l1.length:Int)
       ·rw [if_pos c9] at H
        have c9b0:=decide_eq_true c9
        clear c9
        replace H:=Option.bind_eq_some_iff.mp H
        obtain ⟨t366,A100,H⟩:=H
        replace H:(spec_l1End.j1 k1 l1 x2_1 x7_1 (!t366) l0_0) = some r:=H
        have A10:=Aside0.mk A100
        clear A100
        have H':=Aside0.mk H
        clear H
        have p365:0 ≤ (x2_1:Int):=oD
        have q365:x2_1 < (l1.length:Int):=oD
        obtain ⟨ad365,e365,hx365_0⟩:=Kd.at_int HR1.out x2_1 p365 q365
        cases e365
        replace hx365_0:=(HB.out.cell (World.block_lt_of_cell? w _ hx365_0)).trans hx365_0
        replace p365:=eq_true p365
        replace q365:=eq_true q365
        have hcz11_0:wr.cell? ⟨gb364,0,none⟩ = some (.slice A0_0 l0_0.length c0_0):=(blk_cell BK364.out 0).trans rfl
        have hfz11_0:=blk_frozen BK364.out 0
        go_wp2_with (first|(go_at_call 83;(with_reducible refine (spec_l1In.calls (rd l1 x2_1) (-12) (wrap64 ((l0_0.length:Int) - 1)) t366 _ A10.out).mono ?_);rintro e w' ⟨rfl,⟨nd,rfl⟩⟩;(try first|exact ⟨rfl,_,World.drewN_drewN _ _ _⟩|exact ⟨rfl,_,Eq.trans (World.drewN_drewN _ _ _) (congrArg (World.drewN _) (Nat.add_assoc _ _ _))⟩)))
        repeat (go_quiet (first|(go_at_call 83;(with_reducible refine (spec_l1In.calls (rd l1 x2_1) (-12) (wrap64 ((l0_0.length:Int) - 1)) t366 _ A10.out).mono ?_);rintro e w' ⟨rfl,⟨nd,rfl⟩⟩;(try first|exact ⟨rfl,_,World.drewN_drewN _ _ _⟩|exact ⟨rfl,_,Eq.trans (World.drewN_drewN _ _ _) (congrArg (World.drewN _) (Nat.add_assoc _ _ _))⟩)));try go_wp2_with (first|(go_at_call 83;(with_reducible refine (spec_l1In.calls (rd l1 x2_1) (-12) (wrap64 ((l0_0.length:Int) - 1)) t366 _ A10.out).mono ?_);rintro e w' ⟨rfl,⟨nd,rfl⟩⟩;(try first|exact ⟨rfl,_,World.drewN_drewN _ _ _⟩|exact ⟨rfl,_,Eq.trans (World.drewN_drewN _ _ _) (congrArg (World.drewN _) (Nat.add_assoc _ _ _))⟩))))
        go_meet
        case rel=>exact ⟨_,(!t366),Ye,H',⟨Zd⟩,⟨YH⟩,⟨bH⟩⟩
       ·rw [if_neg c9] at H
        exact absurd H (by simp)
      ·rw [if_neg c8] at H
       exact absurd H (by simp)
    case rest =>
     clear HC6
     try clear c1
     try clear p2
     try clear p3
     try clear q3
     try clear hx3
     try clear c5
     try clear c5b0
     try clear p6
     try clear c7
     try clear c7b0
     try clear c8
     try clear c8b0
     try clear c9
     try clear c9b0
     try clear hcz11_0
     try clear hfz11_0
     try clear hx365_0
     try clear p2
     try clear p365
     try clear q365
     obtain ⟨kq,x25_5,rfl,HA,HJ5,BK364,HB⟩:=hcut
     cases kq with
     | zero=>exact absurd HA.out (by simp [spec_l1End.j1])
     | succ kj5 =>
      have H:=HA.out
      clear HA
      simp only [spec_l1End.j1] at H
      by_cases c12:x25_5 = true
      ·subst c12
       have H1:(some (-1)) = some r:=by rw [if_pos rfl] at H;exact H
       clear H
       have H:=H1
       clear H1
       obtain rfl:=Option.some.inj H
       go_wp2
       repeat (go_quiet (fail);try go_wp2)
       go_ret
       exact ⟨Yb,bH⟩
      ·replace c12:=Bool.eq_false_iff.mpr c12
       subst c12
       have H1:(if 0 ≤ x2_1 then (if x2_1 < (l1.length:Int) then (if (rd l1 x2_1) ≥ 0 then (if 0 ≤ (rd l1 x2_1) then (if (rd l1 x2_1) < (l0_0.length:Int) then (spec_l1End.l0 kj5 l1 (wrap64 (x2_1 + 1)) (wrap64 ((wrap64 (x7_1 - 1)) + (rd l0_0 (rd l1 x2_1)))) l0_0) else (none)) else (none)) else (spec_l1End.l0 kj5 l1 (wrap64 (x2_1 + 1)) (wrap64 (x7_1 - 1)) l0_0)) else (none)) else (none)) = some r:=by rw [if_neg (show ¬ (false = true) by decide)] at H;exact H
       clear H
       have H:=H1
       clear H1
       by_cases c13:0 ≤ x2_1
       ·rw [if_pos c13] at H
        have c13b0:=decide_eq_true c13
        clear c13
        by_cases c14:x2_1 < (l1.length:Int)
        ·rw [if_pos c14] at H
         have c14b0:=decide_eq_true c14
         clear c14
         by_cases c15:(rd l1 x2_1) ≥ 0
         ·rw [if_pos c15] at H
          have c15b0:decide (0 ≤ (rd l1 x2_1)) = true:=decide_eq_true c15
          clear c15
          by_cases c16:0 ≤ (rd l1 x2_1)
          ·rw [if_pos c16] at H
           have c16b0:=decide_eq_true c16
           clear c16
           by_cases c17:(rd l1 x2_1) < (l0_0.length:Int)
           ·rw [if_pos c17] at H
            have c17b0:=decide_eq_true c17
            clear c17
            have H':=Aside0.mk H
            clear H
            have p367:0 ≤ (x2_1:Int):=oD
            have q367:x2_1 < (l1.length:Int):=oD
            obtain ⟨ad367,e367,hx367_0⟩:=Kd.at_int HR1.out x2_1 p367 q367
            cases e367
            replace hx367_0:=(HB.out.cell (World.block_lt_of_cell? w _ hx367_0)).trans hx367_0
            replace p367:=eq_true p367
            replace q367:=eq_true q367
            have hcz18_0:wc.cell? ⟨gb364,0,none⟩ = some (.slice A0_0 l0_0.length c0_0):=(blk_cell BK364.out 0).trans rfl
            have hfz18_0:=blk_frozen BK364.out 0
            have p368:0 ≤ (x2_1:Int):=oD
            have q368:x2_1 < (l1.length:Int):=oD
            obtain ⟨ad368,e368,hx368_0⟩:=Kd.at_int HR1.out x2_1 p368 q368
            obtain rfl:ad367 = ad368:=(by injection e368)
            replace hx368_0:=(HB.out.cell (World.block_lt_of_cell? w _ hx368_0)).trans hx368_0
            replace p368:=eq_true p368
            replace q368:=eq_true q368
            have p369:0 ≤ ((rd l1 x2_1):Int):=oD
            have q369:(rd l1 x2_1) < (l0_0.length:Int):=oD
            obtain ⟨ad369,e369,hx369_0⟩:=Kd.at_int HR0_0.out (rd l1 x2_1) p369 q369
            cases e369
            replace hx369_0:=(HB.out.cell (World.block_lt_of_cell? w _ hx369_0)).trans hx369_0
            replace p369:=eq_true p369
            replace q369:=eq_true q369
            go_wp2
            repeat (go_quiet (fail);try go_wp2)
            go_roundg kj5
            case measure=>have:=HK1.out;have:=HJ5.out;omega
            case rel=>exact ⟨(wrap64 (x2_1 + 1)),(wrap64 ((wrap64 (x7_1 - 1)) + (rd l0_0 (rd l1 x2_1)))),Ye,Ye,H',⟨by have:=HK1.out;have:=HJ5.out;omega⟩,⟨YH⟩,⟨bH⟩⟩
           ·rw [if_neg c17] at H
            exact absurd H (by simp)
          ·rw [if_neg c16] at H
           exact absurd H (by simp)
         ·rw [if_neg c15] at H
          have c15b0:decide (0 ≤ (rd l1 x2_1)) = false:=decide_eq_false c15
          clear c15
          have H':=Aside0.mk H
          clear H
          have p367:0 ≤ (x2_1:Int):=oD
          have q367:x2_1 < (l1.length:Int):=oD
          obtain ⟨ad367,e367,hx367_0⟩:=Kd.at_int HR1.out x2_1 p367 q367
          cases e367
          replace hx367_0:=(HB.out.cell (World.block_lt_of_cell? w _ hx367_0)).trans hx367_0
          replace p367:=eq_true p367
          replace q367:=eq_true q367
          go_wp2
          repeat (go_quiet (fail);try go_wp2)
          go_roundg kj5
          case measure=>have:=HK1.out;have:=HJ5.out;omega
          case rel=>exact ⟨(wrap64 (x2_1 + 1)),(wrap64 (x7_1 - 1)),Ye,Ye,H',⟨by have:=HK1.out;have:=HJ5.out;omega⟩,⟨YH⟩,⟨bH⟩⟩
        ·rw [if_neg c14] at H
         exact absurd H (by simp)
       ·rw [if_neg c13] at H
        exact absurd H (by simp)
   ·rw [if_neg c5] at H
    have c5b0:decide (0 < x7_1) = false:=decide_eq_false c5
    clear c5
    obtain rfl:=Option.some.inj H
    go_wp2
    repeat (go_quiet (fail);try go_wp2)
    go_ret
    exact ⟨Yb,bH⟩

/-! ### spec_l1Term: function 46 -/
def spec_l1Term.f (k:Nat) (l0_0:List Int) (l1:List Int):Option (Bool):=(spec_l1In.f (l1.length:Int) 1 40).bind fun t371=>(if t371 = true then ((spec_l1End.f k l0_0 l1 0).bind fun t372=>(some (t372 == (l1.length:Int)))) else (some false))
theorem spec_l1Term.mono:∀ a0 a1 k,LeO (spec_l1Term.f k a0 a1) (spec_l1Term.f (k + 1) a0 a1):=by
 intro a0 a1 k
 unfold spec_l1Term.f
 have m0:=@spec_l1End.mono
 exact mO
set_option maxHeartbeats 8000000 in
set_option maxRecDepth 100000 in
theorem spec_l1Term.calls (k:Nat) (A0_0:Option Addr) (c0_0:Nat) (l0_0:List Int) (A1:Option Addr) (c1:Nat) (l1:List Int) (r:Bool) (w:World) (hr0_0:Kd.C (Kd.int .i64) w A0_0 l0_0.length l0_0) (hc0_0:l0_0.length ≤ c0_0) (hr1:Kd.C (Kd.int .i64) w A1 l1.length l1) (hc1:l1.length ≤ c1) (h:spec_l1Term.f k l0_0 l1 = some r) :
  Calls Try.prog 46 #[.agg #[.slice A0_0 l0_0.length c0_0],.slice A1 l1.length c1] w fun e w'=>e = .returned (.bool r) ∧ Below w.heap.size w w':=by
 have hu26:=Try.underlying26
 have HR0_0:=Aside0.mk hr0_0
 have HC0_0:=Aside0.mk hc0_0
 clear hr0_0 hc0_0
 have HR1:=Aside0.mk hr1
 have HC1:=Aside0.mk hc1
 clear hr1 hc1
 have HB:=Aside0.mk (Below.refl w.heap.size w)
 have H:((spec_l1In.f (l1.length:Int) 1 40).bind fun t371=>(if t371 = true then ((spec_l1End.f k l0_0 l1 0).bind fun t372=>(some (t372 == (l1.length:Int)))) else (some false))) = some r:=h
 clear h
 replace H:=Option.bind_eq_some_iff.mp H
 obtain ⟨t371,A30,H⟩:=H
 replace H:(if t371 = true then ((spec_l1End.f k l0_0 l1 0).bind fun t372=>(some (t372 == (l1.length:Int)))) else (some false)) = some r:=H
 have A3:=Aside0.mk A30
 clear A30
 by_cases c4:t371 = true
 ·subst c4
  have H1:((spec_l1End.f k l0_0 l1 0).bind fun t372=>(some (t372 == (l1.length:Int)))) = some r:=by rw [if_pos rfl] at H;exact H
  clear H
  have H:=H1
  clear H1
  replace H:=Option.bind_eq_some_iff.mp H
  obtain ⟨t372,A50,H⟩:=H
  replace H:(some (t372 == (l1.length:Int))) = some r:=H
  have A5:=Aside0.mk A50
  clear A50
  obtain rfl:=Option.some.inj H
  go_enter Try.func46,Try.ntmps46
  go_wp2_with (first|((with_reducible refine gate_dst (N:=2) rfl ?_);(try (refine gate_guard (by rfl) ?_;dsimp only));refine box_event ?hg (N:=2) ?hd (cs:=#[.slice A0_0 l0_0.length c0_0]) (t:=26) ?hr ?_;(case hd=>rfl);(case hg=>rfl);(case hr=>exact Yd);intro gb370 hg w6 hbox hb;have BK370:=Aside0.mk (hbox);have GW370:=Aside0.mk ((hZ:w.heap.size ≤ gb370));have GE370:=Aside0.mk ((hZ:w.heap.size ≤ gb370));replace HB:=Aside0.mk (below_step bH hb);clear hb hbox hg)|((with_reducible refine gate_callee (f:=83) rfl ?_);refine goesL_ (some 7) rfl rfl Try.func83 (by kernel_rfl) rfl #[.int .i64 (l1.length:Int),.int .i64 1,.int .i64 40] rfl Ya ?_;(with_reducible refine (spec_l1In.calls (l1.length:Int) 1 40 true _ A3.out).mono ?_);rintro e w' ⟨rfl,⟨nd,rfl⟩⟩;refine ⟨_,rfl,?_⟩;have hcz7_0:w6.cell? ⟨gb370,0,none⟩ = some (.slice A0_0 l0_0.length c0_0):=(blk_cell BK370.out 0).trans rfl;have hfz7_0:=blk_frozen BK370.out 0)|(go_at_call 84;(with_reducible refine (spec_l1End.calls k _ _ l0_0 _ _ l1 0 t372 _ ?side1 ?side2 ?side3 ?side4 A5.out).mono ?_);(case side1=>repeat (first|exact (Kd.C_below HR0_0.out bH)|(with_reducible refine Kd.C_alloc ?_ _)|(with_reducible refine Kd.C_drewN ?_ _)|(with_reducible refine Kd.C_drew ?_)));(case side2=>exact Yu);(case side3=>repeat (first|exact (Kd.C_below HR1.out bH)|(with_reducible refine Kd.C_alloc ?_ _)|(with_reducible refine Kd.C_drewN ?_ _)|(with_reducible refine Kd.C_drew ?_)));(case side4=>exact HC1.out);rintro e w8 ⟨rfl,hb⟩;replace BK370:=Aside0.mk (blk_below (bB BK370) hb);replace HB:=Aside0.mk (below_step bH hb);(try clear hb);(try clear hb2);(try clear hk);(try clear hi)))
  go_ret
  exact ⟨Yb,bH⟩
 ·replace c4:=Bool.eq_false_iff.mpr c4
  subst c4
  have H1:(some false) = some r:=by rw [if_neg (show ¬ (false = true) by decide)] at H;exact H
  clear H
  have H:=H1
  clear H1
  obtain rfl:=Option.some.inj H
  go_enter Try.func46,Try.ntmps46
  go_wp2_with (first|((with_reducible refine gate_dst (N:=2) rfl ?_);(try (refine gate_guard (by rfl) ?_;dsimp only));refine box_event ?hg (N:=2) ?hd (cs:=#[.slice A0_0 l0_0.length c0_0]) (t:=26) ?hr ?_;(case hd=>rfl);(case hg=>rfl);(case hr=>exact Yd);intro gb370 hg w9 hbox hb;have BK370:=Aside0.mk (hbox);have GW370:=Aside0.mk ((hZ:w.heap.size ≤ gb370));have GE370:=Aside0.mk ((hZ:w.heap.size ≤ gb370));replace HB:=Aside0.mk (below_step bH hb);clear hb hbox hg)|((with_reducible refine gate_callee (f:=83) rfl ?_);refine goesL_ (some 7) rfl rfl Try.func83 (by kernel_rfl) rfl #[.int .i64 (l1.length:Int),.int .i64 1,.int .i64 40] rfl Ya ?_;(with_reducible refine (spec_l1In.calls (l1.length:Int) 1 40 false _ A3.out).mono ?_);rintro e w' ⟨rfl,⟨nd,rfl⟩⟩;refine ⟨_,rfl,?_⟩))
  go_ret
  exact ⟨Yb,bH⟩

/-! ### spec_l5Env: function 47 -/
def spec_l5Env.f (k:Nat) (a0_0:Int) (l0_1:List (List Int)) (l1:List Int):Option (Bool):=if (l1.length:Int) = 12 then ((spec_l1All.f k l1 0 (wrap64 (a0_0 - 1))).bind fun t374=>(some t374)) else (some false)
theorem spec_l5Env.mono:∀ a0 a1 a2 k,LeO (spec_l5Env.f k a0 a1 a2) (spec_l5Env.f (k + 1) a0 a1 a2):=by
 intro a0 a1 a2 k
 unfold spec_l5Env.f
 have m0:=@spec_l1All.mono
 exact mO
set_option maxHeartbeats 8000000 in
set_option maxRecDepth 100000 in
theorem spec_l5Env.calls (k:Nat) (a0_0:Int) (A0_1:Option Addr) (c0_1:Nat) (l0_1:List (List Int)) (A1:Option Addr) (c1:Nat) (l1:List Int) (r:Bool) (w:World) (hr0_1:Kd.C (Kd.slice 3 (Kd.int .i64)) w A0_1 l0_1.length l0_1) (hc0_1:l0_1.length ≤ c0_1) (hr1:Kd.C (Kd.int .i64) w A1 l1.length l1) (hc1:l1.length ≤ c1) (h:spec_l5Env.f k a0_0 l0_1 l1 = some r) :
  Calls Try.prog 47 #[.agg #[.int .i64 a0_0,.slice A0_1 l0_1.length c0_1],.slice A1 l1.length c1] w fun e w'=>e = .returned (.bool r) ∧ Below w.heap.size w w':=by
 have hu31:=Try.underlying31
 have HR0_1:=Aside0.mk hr0_1
 have HC0_1:=Aside0.mk hc0_1
 clear hr0_1 hc0_1
 have HR1:=Aside0.mk hr1
 have HC1:=Aside0.mk hc1
 clear hr1 hc1
 have HB:=Aside0.mk (Below.refl w.heap.size w)
 have H:(if (l1.length:Int) = 12 then ((spec_l1All.f k l1 0 (wrap64 (a0_0 - 1))).bind fun t374=>(some t374)) else (some false)) = some r:=h
 clear h
 by_cases c3:(l1.length:Int) = 12
 ·rw [if_pos c3] at H
  have c3b0:((l1.length:Int) == 12) = true:=beq_iff_eq.mpr c3
  have c3b1:((l1.length:Int) != 12) = false:=bne_eq_false_iff_eq.mpr c3
  clear c3
  replace H:=Option.bind_eq_some_iff.mp H
  obtain ⟨t374,A40,H⟩:=H
  replace H:(some t374) = some r:=H
  have A4:=Aside0.mk A40
  clear A40
  obtain rfl:=Option.some.inj H
  go_enter Try.func47,Try.ntmps47
  go_wp2_with (first|((with_reducible refine gate_dst (N:=2) rfl ?_);refine box_event ?hg (N:=2) ?hd (cs:=#[.int .i64 a0_0,.slice A0_1 l0_1.length c0_1]) (t:=31) ?hr ?_;(case hd=>rfl);(case hg=>rfl);(case hr=>exact Yd);intro gb373 hg w5 hbox hb;have BK373:=Aside0.mk (hbox);have GW373:=Aside0.mk ((hZ:w.heap.size ≤ gb373));have GE373:=Aside0.mk ((hZ:w.heap.size ≤ gb373));replace HB:=Aside0.mk (below_step bH hb);clear hb hbox hg;have hcz6_0:w5.cell? ⟨gb373,0,none⟩ = some (.int .i64 a0_0):=(blk_cell BK373.out 0).trans rfl;have hcz6_1:w5.cell? ⟨gb373,1,none⟩ = some (.slice A0_1 l0_1.length c0_1):=(blk_cell BK373.out 1).trans rfl;have hfz6_0:=blk_frozen BK373.out 0;have hfz6_1:=blk_frozen BK373.out 1)|(go_at_call 85;(with_reducible refine (spec_l1All.calls k _ _ l1 0 (wrap64 (a0_0 - 1)) t374 _ ?side1 ?side2 A4.out).mono ?_);(case side1=>exact sC HR1);(case side2=>exact HC1.out);rintro e w' ⟨rfl,⟨nd,rfl⟩⟩))
  go_ret
  exact ⟨Yb,bH⟩
 ·rw [if_neg c3] at H
  have c3b0:((l1.length:Int) == 12) = false:=beq_eq_false_iff_ne.mpr c3
  have c3b1:((l1.length:Int) != 12) = true:=bne_iff_ne.mpr c3
  obtain rfl:=Option.some.inj H
  go_enter Try.func47,Try.ntmps47
  go_wp2_with (first|((with_reducible refine gate_dst (N:=2) rfl ?_);refine box_event ?hg (N:=2) ?hd (cs:=#[.int .i64 a0_0,.slice A0_1 l0_1.length c0_1]) (t:=31) ?hr ?_;(case hd=>rfl);(case hg=>rfl);(case hr=>exact Yd);intro gb373 hg w7 hbox hb;have BK373:=Aside0.mk (hbox);have GW373:=Aside0.mk ((hZ:w.heap.size ≤ gb373));have GE373:=Aside0.mk ((hZ:w.heap.size ≤ gb373));replace HB:=Aside0.mk (below_step bH hb);clear hb hbox hg))
  go_ret
  exact ⟨Yb,bH⟩

end Go.Proofs.Ytmgkflkfoccgkaa.QFnPutFor
