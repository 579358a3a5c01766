-- Written by this session's own program (wip/x/xprint.py, over the kit's printer); Lean checks it.
import Derived.Test.YtamiedpgahpihaaQFnExactPutTextx0
import Derived.Test.YtamiedpgahpihaaQFnExactPutTextx2
import Derived.Test.YtamiedpgahpihaaQFnExactPutTextx4
import Derived.Test.YtamiedpgahpihaaQFnExactPutTextx5
namespace Go.Proofs.Ytamiedpgahpihaa.QFnExactPutText
open Go.RowKit Go.Proofs.YtamiedpgahpihaaW.PrintWords Go.Proofs.YtamiedpgahpihaaW.PrintLast Go.Proofs.YtamiedpgahpihaaW.PrintMore
attribute [local go_sem] max2_int min2_int max_two min_two max_three min_three max_four min_four   -- for this text's walks alone
set_option linter.unusedVariables false
set_option linter.unusedSimpArgs false

/-! ### spec_PutText: function 25 -/
mutual
def spec_PutText.j0:Nat → ByteArray → Bool → List ByteArray → List ByteArray → Option (List ByteArray × List ByteArray × Bool)
 | 0,_,_,_,_=>none
 | k + 1,x1,x17,x213000,x213001=>if x17 = true then (some (([]:List ByteArray),([]:List ByteArray),false)) else ((spec_l13All.f x213000 x213001).bind fun t215=>((spec_l13Texts.f k t215).bind fun bt218=>(if bt218.2 < (t215.length:Int) then (spec_PutText.j1 k x1 bt218.2 true x213000 x213001) else (if (wrap64 (bt218.2 + (wrap64 (Int.tdiv (wrap64 ((x1.size:Int) + 9)) 10)))) > 400 then (spec_PutText.j1 k x1 bt218.2 true x213000 x213001) else (spec_PutText.j1 k x1 bt218.2 (bt218.2 == 400) x213000 x213001)))))
def spec_PutText.j1:Nat → ByteArray → Int → Bool → List ByteArray → List ByteArray → Option (List ByteArray × List ByteArray × Bool)
 | 0,_,_,_,_,_=>none
 | k + 1,x1,x8,x42,x213000,x213001=>if x42 = true then (some (([]:List ByteArray),([]:List ByteArray),false)) else ((spec_l13Own.f x213000 x213001).bind fun bt222=>((spec_l13Put.f k x8 x1).bind fun t229=>(if bt222.2.length + t229.length < 8796093022208 then (some (bt222.1,(bt222.2 ++ t229),true)) else (none))))
end
def spec_PutText.f (k:Nat) (l0_0:List ByteArray) (l0_1:List ByteArray) (a1:ByteArray):Option (List ByteArray × List ByteArray × Bool):=(spec_GoodDisk.f k l0_0 l0_1).bind fun t214=>(if t214 = true then (spec_PutText.j0 k a1 (decide ((a1.size:Int) > 1000)) l0_0 l0_1) else (spec_PutText.j0 k a1 true l0_0 l0_1))
theorem spec_PutText.mono_l:∀ k,(∀ y0 y1 y2 y3,LeO (spec_PutText.j0 k y0 y1 y2 y3) (spec_PutText.j0 (k + 1) y0 y1 y2 y3)) ∧ (∀ y0 y1 y2 y3 y4,LeO (spec_PutText.j1 k y0 y1 y2 y3 y4) (spec_PutText.j1 (k + 1) y0 y1 y2 y3 y4))
 | 0=>⟨fun _ _ _ _ r h=>by simp [spec_PutText.j0] at h,fun _ _ _ _ _ r h=>by simp [spec_PutText.j1] at h⟩
 | k + 1=>by
  obtain ⟨ih0,ih1⟩:=spec_PutText.mono_l k
  refine ⟨?_,?_⟩
  ·intro y0 y1 y2 y3
   unfold spec_PutText.j0
   repeat' first
   | (with_reducible exact ih0 _ _ _ _)
   | (with_reducible exact ih1 _ _ _ _ _)
   | (with_reducible exact spec_GoodDisk.mono _ _ _)
   | (with_reducible exact spec_l13Put.mono _ _ _)
   | (with_reducible exact spec_l13Texts.mono _ _)
   | (with_reducible exact LeO.refl _)
   | (with_reducible exact LeO.none _)
   | (with_reducible refine LeO.ite ?_ ?_)
   | (with_reducible refine LeO.bind ?_ (fun _=>?_))
   | exact ih0 _ _ _ _
   | exact ih1 _ _ _ _ _
   | exact spec_GoodDisk.mono _ _ _
   | exact spec_l13Put.mono _ _ _
   | exact spec_l13Texts.mono _ _
   | exact LeO.none _
   | refine LeO.ite ?_ ?_
   | refine LeO.bind ?_ (fun _=>?_)
  ·intro y0 y1 y2 y3 y4
   unfold spec_PutText.j1
   repeat' first
   | (with_reducible exact ih0 _ _ _ _)
   | (with_reducible exact ih1 _ _ _ _ _)
   | (with_reducible exact spec_GoodDisk.mono _ _ _)
   | (with_reducible exact spec_l13Put.mono _ _ _)
   | (with_reducible exact spec_l13Texts.mono _ _)
   | (with_reducible exact LeO.refl _)
   | (with_reducible exact LeO.none _)
   | (with_reducible refine LeO.ite ?_ ?_)
   | (with_reducible refine LeO.bind ?_ (fun _=>?_))
   | exact ih0 _ _ _ _
   | exact ih1 _ _ _ _ _
   | exact spec_GoodDisk.mono _ _ _
   | exact spec_l13Put.mono _ _ _
   | exact spec_l13Texts.mono _ _
   | exact LeO.none _
   | refine LeO.ite ?_ ?_
   | refine LeO.bind ?_ (fun _=>?_)
theorem spec_PutText.mono:∀ a0 a1 a2 k,LeO (spec_PutText.f k a0 a1 a2) (spec_PutText.f (k + 1) a0 a1 a2):=by
 intro a0 a1 a2 k
 obtain ⟨ih0,ih1⟩:=spec_PutText.mono_l k
 unfold spec_PutText.f
 repeat' first
   | (with_reducible exact ih0 _ _ _ _)
   | (with_reducible exact ih1 _ _ _ _ _)
   | (with_reducible exact spec_GoodDisk.mono _ _ _)
   | (with_reducible exact spec_l13Put.mono _ _ _)
   | (with_reducible exact spec_l13Texts.mono _ _)
   | (with_reducible exact LeO.refl _)
   | (with_reducible exact LeO.none _)
   | (with_reducible refine LeO.ite ?_ ?_)
   | (with_reducible refine LeO.bind ?_ (fun _=>?_))
   | exact ih0 _ _ _ _
   | exact ih1 _ _ _ _ _
   | exact spec_GoodDisk.mono _ _ _
   | exact spec_l13Put.mono _ _ _
   | exact spec_l13Texts.mono _ _
   | exact LeO.none _
   | refine LeO.ite ?_ ?_
   | refine LeO.bind ?_ (fun _=>?_)
def spec_PutText.T8:Bool × List (List Nat × List Nat):=(true,[([],[]),([0],[0]),([],[]),([],[]),([2,3],[2,3]),([1,4,4],[1,4]),([0,1,2,3,4,5],[]),([6,5,5,0,1,2,3,4,5],[5,6])])
def spec_PutText.B8:List Nat:=[0,1,0,0,12,31,63,127]
theorem spec_PutText.tab8:rtab .any (opsOf Try.f25 8) = spec_PutText.T8:=by kernel_rfl
theorem spec_PutText.bits8:waitsOk spec_PutText.T8.2 spec_PutText.B8 = true:=by kernel_rfl
set_option maxHeartbeats 8000000 in
set_option maxRecDepth 100000 in
theorem spec_PutText.calls (k:Nat) (A0_0:Option Addr) (c0_0:Nat) (l0_0:List ByteArray) (A0_1:Option Addr) (c0_1:Nat) (l0_1:List ByteArray) (a1:ByteArray) (r1:List ByteArray) (r2:List ByteArray) (r3:Bool) (w:World) (hr0_0:Kd.C Kd.string w A0_0 l0_0.length l0_0) (hc0_0:l0_0.length ≤ c0_0) (hr0_1:Kd.C Kd.string w A0_1 l0_1.length l0_1) (hc0_1:l0_1.length ≤ c0_1) (h:spec_PutText.f k l0_0 l0_1 a1 = some (r1,r2,r3)) :
  Calls Try.prog 25 #[.agg #[.slice A0_0 l0_0.length c0_0,.slice A0_1 l0_1.length c0_1],.string a1] w fun e w'=>∃ v0_ v1_:Value,e = .returned (.tuple #[.agg #[v0_,v1_],.bool r3]) ∧ Kd.R Kd.string 9 w' w.heap.size (fun k_=>some k_ ≠ (v1_:Value).ownBlock) v0_ r1 ∧ Kd.R Kd.string 9 w' w.heap.size (fun k_=>some k_ ≠ (v0_:Value).ownBlock) v1_ r2 ∧ Below w.heap.size w w':=by
 have hu34:=Try.underlying34
 have HR0_0:=Aside0.mk hr0_0
 have HC0_0:=Aside0.mk hc0_0
 clear hr0_0 hc0_0
 have HR0_1:=Aside0.mk hr0_1
 have HC0_1:=Aside0.mk hc0_1
 clear hr0_1 hc0_1
 have HB:=Aside0.mk (Below.refl w.heap.size w)
 have H:((spec_GoodDisk.f k l0_0 l0_1).bind fun t214=>(if t214 = true then (spec_PutText.j0 k a1 (decide ((a1.size:Int) > 1000)) l0_0 l0_1) else (spec_PutText.j0 k a1 true l0_0 l0_1))) = some (r1,r2,r3):=h
 clear h
 have HC3:=Aside0.mk H
 clear H
 go_enter Try.func25,Try.ntmps25
 go_upto_region 1 with (first|((with_reducible refine gate_dst (N:=2) rfl ?_);(try (refine gate_guard (by rfl) ?_;dsimp only));refine box_event ?hg (N:=2) ?hd (cs:=#[.slice A0_0 l0_0.length c0_0,.slice A0_1 l0_1.length c0_1]) (t:=34) ?hr ?_;(case hd=>rfl);(case hg=>rfl);(case hr=>first|(go_simp;done)|(go_simp;rfl));intro gb212 hg w4 hbox hb;have n0_:=Aside0.mk (below_step (by repeat (first|(with_reducible first|exact HB.out|apply below_alloc|apply pw_below_drewN|apply below_drew1)|exact HB.out)) hb);have n1_:=Aside0.mk (hbox);have n2_:=Aside0.mk ((by rw [hg];exact (below_size (by repeat (first|(with_reducible first|exact HB.out|apply below_alloc|apply pw_below_drewN|apply below_drew1)|exact HB.out))):w.heap.size ≤ gb212));have n3_:=Aside0.mk ((by rw [hg];exact (below_size (by repeat (first|(with_reducible first|exact HB.out|apply below_alloc|apply pw_below_drewN|apply below_drew1)|exact HB.out))):w.heap.size ≤ gb212));clear HB;have HB:=n0_;have BK212:=n1_;have GW212:=n2_;have GE212:=n3_;clear n0_ n1_ n2_ n3_;clear hb hbox hg)|((with_reducible refine gate_dst (N:=4) rfl ?_);(try (refine gate_guard (by rfl) ?_;dsimp only));refine box_event ?hg (N:=4) ?hd (cs:=#[.slice none 0 0,.slice none 0 0]) (t:=34) ?hr ?_;(case hd=>rfl);(case hg=>rfl);(case hr=>first|(go_simp;done)|(go_simp;rfl));intro gb213 hg w5 hbox hb;have n0_:=Aside0.mk (blk_below (g:=gb212) (o:=.cells #[.slice A0_0 l0_0.length c0_0,.slice A0_1 l0_1.length c0_1] 34 (0,0)) (by (with_reducible repeat (first|refine blk_drewN ?_ _|refine blk_drew ?_|refine blk_alloc ?_ _));exact BK212.out) hb);have n1_:=Aside0.mk (below_step (by repeat (first|(with_reducible first|exact HB.out|apply below_alloc|apply pw_below_drewN|apply below_drew1|refine below_set ?_ GE212.out)|exact HB.out)) hb);have n2_:=Aside0.mk (hbox);have n3_:=Aside0.mk ((by rw [hg];exact (below_size (by repeat (first|(with_reducible first|exact HB.out|apply below_alloc|apply pw_below_drewN|apply below_drew1|refine below_set ?_ GE212.out)|exact HB.out))):w.heap.size ≤ gb213));have n4_:=Aside0.mk ((by rw [hg];exact (below_size (by repeat (first|(with_reducible first|exact HB.out|apply below_alloc|apply pw_below_drewN|apply below_drew1|refine below_set ?_ GE212.out)|exact HB.out))):w.heap.size ≤ gb213));have n5_:=Aside0.mk ((by rw [hg];exact Nat.ne_of_lt (blk_lt (g:=gb212) (o:=.cells #[.slice A0_0 l0_0.length c0_0,.slice A0_1 l0_1.length c0_1] 34 (0,0)) (by (with_reducible repeat (first|refine blk_drewN ?_ _|refine blk_drew ?_|refine blk_alloc ?_ _));exact BK212.out)):gb212 ≠ gb213));have n6_:=Aside0.mk ((by rw [hg];exact Nat.ne_of_gt (blk_lt (g:=gb212) (o:=.cells #[.slice A0_0 l0_0.length c0_0,.slice A0_1 l0_1.length c0_1] 34 (0,0)) (by (with_reducible repeat (first|refine blk_drewN ?_ _|refine blk_drew ?_|refine blk_alloc ?_ _));exact BK212.out)):gb213 ≠ gb212));clear BK212;clear HB;have BK212:=n0_;have HB:=n1_;have BK213:=n2_;have GW213:=n3_;have GE213:=n4_;have NB212_213:=n5_;have NB213_212:=n6_;clear n0_ n1_ n2_ n3_ n4_ n5_ n6_;clear hb hbox hg))
 (try simp only [Act.put,List.setIfInBounds_toArray,List.set_cons_zero,List.set_cons_succ])
 go_cut [17] (fun v17 wc=>∃ (kq:Nat) (x17_2:Bool),v17 = .bool x17_2 ∧ Aside0 (spec_PutText.j0 kq a1 x17_2 l0_0 l0_1 = some (r1,r2,r3)) ∧ Aside0 (kq ≤ k) ∧ Aside0 (wc.heap[gb212]? = some (.cells #[(.slice A0_0 l0_0.length c0_0),(.slice A0_1 l0_1.length c0_1)] 34 (0,0))) ∧ Aside0 (wc.heap[gb213]? = some (.cells #[(.slice none 0 0),(.slice none 0 0)] 34 (0,0))) ∧ Aside0 (Below w.heap.size w wc))
 case first =>
  have H:=HC3.out
  clear HC3
  replace H:=Option.bind_eq_some_iff.mp H
  obtain ⟨t214,A60,H⟩:=H
  replace H:(if t214 = true then (spec_PutText.j0 k a1 (decide ((a1.size:Int) > 1000)) l0_0 l0_1) else (spec_PutText.j0 k a1 true l0_0 l0_1)) = some (r1,r2,r3):=H
  have A6:=Aside0.mk A60
  clear A60
  by_cases c7:t214 = true
  ·subst c7
   have H1:(spec_PutText.j0 k a1 (decide ((a1.size:Int) > 1000)) l0_0 l0_1) = some (r1,r2,r3):=by rw [if_pos rfl] at H;exact H
   clear H
   have H:=H1
   clear H1
   have H':=Aside0.mk H
   clear H
   have hnb8:=NB212_213.out
   have hnc8:=NB213_212.out
   have hcz9_0:w5.cell? ⟨gb212,0,none⟩ = some (.slice A0_0 l0_0.length c0_0):=(blk_cell BK212.out 0).trans rfl
   have hcz9_1:w5.cell? ⟨gb212,1,none⟩ = some (.slice A0_1 l0_1.length c0_1):=(blk_cell BK212.out 1).trans rfl
   have hfz9_0:=blk_frozen BK212.out 0
   have hfz9_1:=blk_frozen BK212.out 1
   go_wp2_with (first|((with_reducible refine gate_callee (f:=34) rfl ?_);refine goesL_ (some 11) rfl rfl Try.func34 (by kernel_rfl) rfl #[.agg #[.slice A0_0 l0_0.length c0_0,.slice A0_1 l0_1.length c0_1]] rfl (by (try simp only [List.map_toArray,List.map_cons,List.map_nil]);first|done|rfl|(simp only [List.length_drop,List.length_take];rfl)) ?_;(with_reducible refine (spec_GoodDisk.calls k _ _ l0_0 _ _ l0_1 true _ ?side1 ?side2 ?side3 ?side4 A6.out).mono ?_);(case side1=>repeat (first|exact (Kd.C_below HR0_0.out HB.out)|(with_reducible refine Kd.C_alloc ?_ _)|(with_reducible refine Kd.C_drewN ?_ _)|(with_reducible refine Kd.C_drew ?_)));(case side2=>exact HC0_0.out);(case side3=>repeat (first|exact (Kd.C_below HR0_1.out HB.out)|(with_reducible refine Kd.C_alloc ?_ _)|(with_reducible refine Kd.C_drewN ?_ _)|(with_reducible refine Kd.C_drew ?_)));(case side4=>exact HC0_1.out);rintro e w10 ⟨rfl,hb⟩;refine ⟨_,rfl,?_⟩;have n0_:=Aside0.mk (blk_below (g:=gb212) (o:=.cells #[.slice A0_0 l0_0.length c0_0,.slice A0_1 l0_1.length c0_1] 34 (0,0)) (by (with_reducible repeat (first|refine blk_drewN ?_ _|refine blk_drew ?_|refine blk_alloc ?_ _));exact BK212.out) hb);have n1_:=Aside0.mk (blk_below (g:=gb213) (o:=.cells #[.slice none 0 0,.slice none 0 0] 34 (0,0)) (by (with_reducible repeat (first|refine blk_drewN ?_ _|refine blk_drew ?_|refine blk_alloc ?_ _));exact BK213.out) hb);have n2_:=Aside0.mk (below_step (by repeat (first|(with_reducible first|exact HB.out|apply below_alloc|apply pw_below_drewN|apply below_drew1|refine below_set ?_ GE212.out|refine below_set ?_ GE213.out)|exact HB.out)) hb);clear BK212;clear BK213;clear HB;have BK212:=n0_;have BK213:=n1_;have HB:=n2_;clear n0_ n1_ n2_;(try clear hb);(try clear hb2);(try clear hk);(try clear hi)))
   go_meet
   case rel=>exact ⟨_,(decide ((a1.size:Int) > 1000)),(by first|rfl|(simp;done)|(simp [*];done)),H',⟨by first|omega|exact Nat.le_refl _⟩,⟨by (with_reducible repeat (first|refine blk_drewN ?_ _|refine blk_drew ?_|refine blk_alloc ?_ _));exact BK212.out⟩,⟨by (with_reducible repeat (first|refine blk_drewN ?_ _|refine blk_drew ?_|refine blk_alloc ?_ _));exact BK213.out⟩,⟨by repeat (first|(with_reducible first|exact HB.out|apply below_alloc|apply pw_below_drewN|apply below_drew1|refine below_set ?_ GE212.out|refine below_set ?_ GE213.out)|exact HB.out)⟩⟩
  ·replace c7:=Bool.eq_false_iff.mpr c7
   subst c7
   have H1:(spec_PutText.j0 k a1 true l0_0 l0_1) = some (r1,r2,r3):=by rw [if_neg (show ¬ (false = true) by decide)] at H;exact H
   clear H
   have H:=H1
   clear H1
   have H':=Aside0.mk H
   clear H
   have hnb11:=NB212_213.out
   have hnc11:=NB213_212.out
   have hcz12_0:w5.cell? ⟨gb212,0,none⟩ = some (.slice A0_0 l0_0.length c0_0):=(blk_cell BK212.out 0).trans rfl
   have hcz12_1:w5.cell? ⟨gb212,1,none⟩ = some (.slice A0_1 l0_1.length c0_1):=(blk_cell BK212.out 1).trans rfl
   have hfz12_0:=blk_frozen BK212.out 0
   have hfz12_1:=blk_frozen BK212.out 1
   go_wp2_with (first|((with_reducible refine gate_callee (f:=34) rfl ?_);refine goesL_ (some 11) rfl rfl Try.func34 (by kernel_rfl) rfl #[.agg #[.slice A0_0 l0_0.length c0_0,.slice A0_1 l0_1.length c0_1]] rfl (by (try simp only [List.map_toArray,List.map_cons,List.map_nil]);first|done|rfl|(simp only [List.length_drop,List.length_take];rfl)) ?_;(with_reducible refine (spec_GoodDisk.calls k _ _ l0_0 _ _ l0_1 false _ ?side1 ?side2 ?side3 ?side4 A6.out).mono ?_);(case side1=>repeat (first|exact (Kd.C_below HR0_0.out HB.out)|(with_reducible refine Kd.C_alloc ?_ _)|(with_reducible refine Kd.C_drewN ?_ _)|(with_reducible refine Kd.C_drew ?_)));(case side2=>exact HC0_0.out);(case side3=>repeat (first|exact (Kd.C_below HR0_1.out HB.out)|(with_reducible refine Kd.C_alloc ?_ _)|(with_reducible refine Kd.C_drewN ?_ _)|(with_reducible refine Kd.C_drew ?_)));(case side4=>exact HC0_1.out);rintro e w13 ⟨rfl,hb⟩;refine ⟨_,rfl,?_⟩;have n0_:=Aside0.mk (blk_below (g:=gb212) (o:=.cells #[.slice A0_0 l0_0.length c0_0,.slice A0_1 l0_1.length c0_1] 34 (0,0)) (by (with_reducible repeat (first|refine blk_drewN ?_ _|refine blk_drew ?_|refine blk_alloc ?_ _));exact BK212.out) hb);have n1_:=Aside0.mk (blk_below (g:=gb213) (o:=.cells #[.slice none 0 0,.slice none 0 0] 34 (0,0)) (by (with_reducible repeat (first|refine blk_drewN ?_ _|refine blk_drew ?_|refine blk_alloc ?_ _));exact BK213.out) hb);have n2_:=Aside0.mk (below_step (by repeat (first|(with_reducible first|exact HB.out|apply below_alloc|apply pw_below_drewN|apply below_drew1|refine below_set ?_ GE212.out|refine below_set ?_ GE213.out)|exact HB.out)) hb);clear BK212;clear BK213;clear HB;have BK212:=n0_;have BK213:=n1_;have HB:=n2_;clear n0_ n1_ n2_;(try clear hb);(try clear hb2);(try clear hk);(try clear hi)))
   go_meet
   case rel=>exact ⟨_,(true),(by first|rfl|(simp;done)|(simp [*];done)),H',⟨by first|omega|exact Nat.le_refl _⟩,⟨by (with_reducible repeat (first|refine blk_drewN ?_ _|refine blk_drew ?_|refine blk_alloc ?_ _));exact BK212.out⟩,⟨by (with_reducible repeat (first|refine blk_drewN ?_ _|refine blk_drew ?_|refine blk_alloc ?_ _));exact BK213.out⟩,⟨by repeat (first|(with_reducible first|exact HB.out|apply below_alloc|apply pw_below_drewN|apply below_drew1|refine below_set ?_ GE212.out|refine below_set ?_ GE213.out)|exact HB.out)⟩⟩
 case rest =>
  clear HC3
  try clear c1
  try clear c2
  try clear p2
  try clear c3
  try clear c7
  try clear c8
  try clear c11
  try clear hcz12_0
  try clear hcz12_1
  try clear hcz9_0
  try clear hcz9_1
  try clear hfz12_0
  try clear hfz12_1
  try clear hfz9_0
  try clear hfz9_1
  obtain ⟨kq,x17_2,rfl,HA,HJ2,BK212,BK213,HB⟩:=hcut
  cases kq with
  | zero=>exact absurd HA.out (by simp [spec_PutText.j0])
  | succ kj2 =>
   have H:=HA.out
   clear HA
   simp only [spec_PutText.j0] at H
   by_cases c14:x17_2 = true
   ·subst c14
    have H1:(some (([]:List ByteArray),([]:List ByteArray),false)) = some (r1,r2,r3):=by rw [if_pos rfl] at H;exact H
    clear H
    have H:=H1
    clear H1
    simp only [Option.some.injEq,Prod.mk.injEq] at H
    obtain ⟨rfl,rfl,rfl⟩:=H
    have hnb15:=NB213_212.out
    have hnc15:=NB212_213.out
    have hcz16_0:wc.cell? ⟨gb213,0,none⟩ = some (.slice none 0 0):=(blk_cell BK213.out 0).trans rfl
    have hcz16_1:wc.cell? ⟨gb213,1,none⟩ = some (.slice none 0 0):=(blk_cell BK213.out 1).trans rfl
    have hfz16_0:=blk_frozen BK213.out 0
    have hfz16_1:=blk_frozen BK213.out 1
    go_wp2
    refine bodyPost_ret (results_ct rfl _ _ gb213 34 #[.slice none 0 0,.slice none 0 0] (0,0) _ rfl (by (with_reducible repeat (first|refine blk_drewN ?_ _|refine blk_drew ?_|refine blk_alloc ?_ _));refine blk_put (cs:=#[.slice none 0 0,.slice none 0 0]) ?_ 1 _ rfl;(with_reducible repeat (first|refine blk_drewN ?_ _|refine blk_drew ?_|refine blk_alloc ?_ _));refine blk_put (cs:=#[.slice none 0 0,.slice none 0 0]) ?_ 0 _ rfl;(with_reducible repeat (first|refine blk_drewN ?_ _|refine blk_drew ?_|refine blk_alloc ?_ _));exact BK213.out) Try.underlying34 rfl (by kernel_rfl)) rfl ?_
    exact ⟨_,_,by first|rfl|(simp [errW_none,errW_some] <;> rfl)|(simp [*,errW_none,errW_some] <;> rfl),by first|exact Kd.R_nil _ _ _ _ _|exact Kd.N_nil _ _ _ _ _|exact Kd.V_nil _ _ _ _ _|exact Kd.Q_nil _ _ _ _ _|exact Kd.S_nil _ _ _ _ _,by first|exact Kd.R_nil _ _ _ _ _|exact Kd.N_nil _ _ _ _ _|exact Kd.V_nil _ _ _ _ _|exact Kd.Q_nil _ _ _ _ _|exact Kd.S_nil _ _ _ _ _,by repeat (first|(with_reducible first|exact HB.out|apply below_alloc|apply pw_below_drewN|apply below_drew1|refine below_set ?_ GE212.out|refine below_set ?_ GE213.out)|exact HB.out)⟩
   ·replace c14:=Bool.eq_false_iff.mpr c14
    subst c14
    have H1:((spec_l13All.f l0_0 l0_1).bind fun t215=>((spec_l13Texts.f kj2 t215).bind fun bt218=>(if bt218.2 < (t215.length:Int) then (spec_PutText.j1 kj2 a1 bt218.2 true l0_0 l0_1) else (if (wrap64 (bt218.2 + (wrap64 (Int.tdiv (wrap64 ((a1.size:Int) + 9)) 10)))) > 400 then (spec_PutText.j1 kj2 a1 bt218.2 true l0_0 l0_1) else (spec_PutText.j1 kj2 a1 bt218.2 (bt218.2 == 400) l0_0 l0_1))))) = some (r1,r2,r3):=by rw [if_neg (show ¬ (false = true) by decide)] at H;exact H
    clear H
    have H:=H1
    clear H1
    replace H:=Option.bind_eq_some_iff.mp H
    obtain ⟨t215,A170,H⟩:=H
    replace H:((spec_l13Texts.f kj2 t215).bind fun bt218=>(if bt218.2 < (t215.length:Int) then (spec_PutText.j1 kj2 a1 bt218.2 true l0_0 l0_1) else (if (wrap64 (bt218.2 + (wrap64 (Int.tdiv (wrap64 ((a1.size:Int) + 9)) 10)))) > 400 then (spec_PutText.j1 kj2 a1 bt218.2 true l0_0 l0_1) else (spec_PutText.j1 kj2 a1 bt218.2 (bt218.2 == 400) l0_0 l0_1)))) = some (r1,r2,r3):=H
    have A17:=Aside0.mk A170
    clear A170
    replace H:=Option.bind_eq_some_iff.mp H
    obtain ⟨⟨t218,t219⟩,A180,H⟩:=H
    replace H:(if t219 < (t215.length:Int) then (spec_PutText.j1 kj2 a1 t219 true l0_0 l0_1) else (if (wrap64 (t219 + (wrap64 (Int.tdiv (wrap64 ((a1.size:Int) + 9)) 10)))) > 400 then (spec_PutText.j1 kj2 a1 t219 true l0_0 l0_1) else (spec_PutText.j1 kj2 a1 t219 (t219 == 400) l0_0 l0_1))) = some (r1,r2,r3):=H
    have A18:=Aside0.mk A180
    clear A180
    have HC19:=Aside0.mk H
    clear H
    have hnb20:=NB212_213.out
    have hnc20:=NB213_212.out
    have hcz21_0:wc.cell? ⟨gb212,0,none⟩ = some (.slice A0_0 l0_0.length c0_0):=(blk_cell BK212.out 0).trans rfl
    have hcz21_1:wc.cell? ⟨gb212,1,none⟩ = some (.slice A0_1 l0_1.length c0_1):=(blk_cell BK212.out 1).trans rfl
    have hfz21_0:=blk_frozen BK212.out 0
    have hfz21_1:=blk_frozen BK212.out 1
    go_upto_region 5 with (first|((with_reducible refine gate_callee (f:=36) rfl ?_);refine goesL_ (some 20) rfl rfl Try.func36 (by kernel_rfl) rfl #[.agg #[.slice A0_0 l0_0.length c0_0,.slice A0_1 l0_1.length c0_1]] rfl (by (try simp only [List.map_toArray,List.map_cons,List.map_nil]);first|done|rfl|(simp only [List.length_drop,List.length_take];rfl)) ?_;(with_reducible refine (spec_l13All.calls _ _ l0_0 _ _ l0_1 t215 _ ?side1 ?side2 ?side3 ?side4 A17.out).mono ?_);(case side1=>repeat (first|exact (Kd.C_below HR0_0.out HB.out)|(with_reducible refine Kd.C_alloc ?_ _)|(with_reducible refine Kd.C_drewN ?_ _)|(with_reducible refine Kd.C_drew ?_)));(case side2=>exact HC0_0.out);(case side3=>repeat (first|exact (Kd.C_below HR0_1.out HB.out)|(with_reducible refine Kd.C_alloc ?_ _)|(with_reducible refine Kd.C_drewN ?_ _)|(with_reducible refine Kd.C_drew ?_)));(case side4=>exact HC0_1.out);rintro e w22 ⟨v216,rfl,ho0,hb⟩;refine ⟨_,rfl,?_⟩;have n0_:=Aside0.mk (Kd.R_lower ho0 (below_size (by repeat (first|(with_reducible first|exact HB.out|apply below_alloc|apply pw_below_drewN|apply below_drew1|refine below_set ?_ GE212.out|refine below_set ?_ GE213.out)|exact HB.out))));have n1_:=Aside0.mk (blk_below (g:=gb212) (o:=.cells #[.slice A0_0 l0_0.length c0_0,.slice A0_1 l0_1.length c0_1] 34 (0,0)) (by (with_reducible repeat (first|refine blk_drewN ?_ _|refine blk_drew ?_|refine blk_alloc ?_ _));exact BK212.out) hb);have n2_:=Aside0.mk (blk_below (g:=gb213) (o:=.cells #[.slice none 0 0,.slice none 0 0] 34 (0,0)) (by (with_reducible repeat (first|refine blk_drewN ?_ _|refine blk_drew ?_|refine blk_alloc ?_ _));exact BK213.out) hb);have n3_:=Aside0.mk (below_step (by repeat (first|(with_reducible first|exact HB.out|apply below_alloc|apply pw_below_drewN|apply below_drew1|refine below_set ?_ GE212.out|refine below_set ?_ GE213.out)|exact HB.out)) hb);clear BK212;clear BK213;clear HB;have HO217:=n0_;have BK212:=n1_;have BK213:=n2_;have HB:=n3_;clear n0_ n1_ n2_ n3_;(try clear hb);(try clear hb2);(try clear hk);(try clear hi);(try clear ho0);obtain ⟨Ao23,co23,eo23⟩:=Kd.R_slice HO217.out;subst eo23)|((with_reducible refine gate_callee (f:=35) rfl ?_);refine goesL_ (some 23) rfl rfl Try.func35 (by kernel_rfl) rfl #[.slice Ao23 t215.length co23] rfl (by (try simp only [List.map_toArray,List.map_cons,List.map_nil]);first|done|rfl|(simp only [List.length_drop,List.length_take];rfl)) ?_;(with_reducible refine (spec_l13Texts.calls kj2 _ _ t215 t218 t219 _ ?side1 ?side2 A18.out).mono ?_);(case side1=>repeat (first|exact (Kd.R_reads' HO217.out).2.2|(with_reducible refine Kd.C_alloc ?_ _)|(with_reducible refine Kd.C_drewN ?_ _)|(with_reducible refine Kd.C_drew ?_)));(case side2=>exact (Kd.R_reads' HO217.out).2.1);rintro e w24 ⟨v220,rfl,ho0,hb⟩;refine ⟨_,rfl,?_⟩;have n0_:=Aside0.mk (Kd.R_elder' (by (with_reducible repeat (first|apply Kd.R_alloc|apply Kd.R_drewN|apply Kd.R_drew));exact HO217.out) (Kd.R_base ho0) hb);have n1_:=Aside0.mk (Kd.R_lower (Kd.R_new' ho0 (Kd.R_lt (by (with_reducible repeat (first|apply Kd.R_alloc|apply Kd.R_drewN|apply Kd.R_drew));exact HO217.out))) (below_size (by repeat (first|(with_reducible first|exact HB.out|apply below_alloc|apply pw_below_drewN|apply below_drew1|refine below_set ?_ GE212.out|refine below_set ?_ GE213.out)|exact HB.out))));have n2_:=Aside0.mk (blk_below (g:=gb212) (o:=.cells #[.slice A0_0 l0_0.length c0_0,.slice A0_1 l0_1.length c0_1] 34 (0,0)) (by (with_reducible repeat (first|refine blk_drewN ?_ _|refine blk_drew ?_|refine blk_alloc ?_ _));exact BK212.out) hb);have n3_:=Aside0.mk (blk_below (g:=gb213) (o:=.cells #[.slice none 0 0,.slice none 0 0] 34 (0,0)) (by (with_reducible repeat (first|refine blk_drewN ?_ _|refine blk_drew ?_|refine blk_alloc ?_ _));exact BK213.out) hb);have n4_:=Aside0.mk (below_step (by repeat (first|(with_reducible first|exact HB.out|apply below_alloc|apply pw_below_drewN|apply below_drew1|refine below_set ?_ GE212.out|refine below_set ?_ GE213.out)|exact HB.out)) hb);clear HO217;clear BK212;clear BK213;clear HB;have HO217:=n0_;have HO221:=n1_;have BK212:=n2_;have BK213:=n3_;have HB:=n4_;clear n0_ n1_ n2_ n3_ n4_;(try clear hb);(try clear hb2);(try clear hk);(try clear hi);(try clear ho0)))
    (try simp only [Act.put,List.setIfInBounds_toArray,List.set_cons_zero,List.set_cons_succ])
    go_cut [42] (fun v42 wc=>∃ (kq:Nat) (x42_18:Bool),v42 = .bool x42_18 ∧ Aside0 (spec_PutText.j1 kq a1 t219 x42_18 l0_0 l0_1 = some (r1,r2,r3)) ∧ Aside0 (kq ≤ kj2) ∧ Aside0 (wc.heap[gb212]? = some (.cells #[(.slice A0_0 l0_0.length c0_0),(.slice A0_1 l0_1.length c0_1)] 34 (0,0))) ∧ Aside0 (wc.heap[gb213]? = some (.cells #[(.slice none 0 0),(.slice none 0 0)] 34 (0,0))) ∧ Aside0 (Below w.heap.size w wc))
    case first =>
     have H:=HC19.out
     clear HC19
     by_cases c25:t219 < (t215.length:Int)
     ·rw [if_pos c25] at H
      have c25b0:decide (t219 < (t215.length:Int)) = true:=decide_eq_true c25
      clear c25
      (first|rw [c25b0]|(simp only [i64_w,i32_w];rw [c25b0])|skip)
      have H':=Aside0.mk H
      clear H
      go_wp2
      go_meet
      case rel=>exact ⟨_,(true),(by first|rfl|(simp;done)|(simp [*];done)),H',⟨by have:=HJ2.out;first|omega|exact Nat.le_refl _⟩,⟨by (with_reducible repeat (first|refine blk_drewN ?_ _|refine blk_drew ?_|refine blk_alloc ?_ _));exact BK212.out⟩,⟨by (with_reducible repeat (first|refine blk_drewN ?_ _|refine blk_drew ?_|refine blk_alloc ?_ _));exact BK213.out⟩,⟨by repeat (first|(with_reducible first|exact HB.out|apply below_alloc|apply pw_below_drewN|apply below_drew1|refine below_set ?_ GE212.out|refine below_set ?_ GE213.out)|exact HB.out)⟩⟩
     ·rw [if_neg c25] at H
      have c25b0:decide (t219 < (t215.length:Int)) = false:=decide_eq_false c25
      clear c25
      (first|rw [c25b0]|(simp only [i64_w,i32_w];rw [c25b0])|skip)
      by_cases c26:(wrap64 (t219 + (wrap64 (Int.tdiv (wrap64 ((a1.size:Int) + 9)) 10)))) > 400
      ·rw [if_pos c26] at H
       have c26b0:decide (400 < (wrap64 (t219 + (wrap64 (Int.tdiv (wrap64 ((a1.size:Int) + 9)) 10))))) = true:=decide_eq_true c26
       clear c26
       have H':=Aside0.mk H
       clear H
       go_wp2
       go_meet
       case rel=>exact ⟨_,(true),(by first|rfl|(simp;done)|(simp [*];done)),H',⟨by have:=HJ2.out;first|omega|exact Nat.le_refl _⟩,⟨by (with_reducible repeat (first|refine blk_drewN ?_ _|refine blk_drew ?_|refine blk_alloc ?_ _));exact BK212.out⟩,⟨by (with_reducible repeat (first|refine blk_drewN ?_ _|refine blk_drew ?_|refine blk_alloc ?_ _));exact BK213.out⟩,⟨by repeat (first|(with_reducible first|exact HB.out|apply below_alloc|apply pw_below_drewN|apply below_drew1|refine below_set ?_ GE212.out|refine below_set ?_ GE213.out)|exact HB.out)⟩⟩
      ·rw [if_neg c26] at H
       have c26b0:decide (400 < (wrap64 (t219 + (wrap64 (Int.tdiv (wrap64 ((a1.size:Int) + 9)) 10))))) = false:=decide_eq_false c26
       clear c26
       have H':=Aside0.mk H
       clear H
       go_wp2
       go_meet
       case rel=>exact ⟨_,((t219 == 400)),(by first|rfl|(simp;done)|(simp [*];done)),H',⟨by have:=HJ2.out;first|omega|exact Nat.le_refl _⟩,⟨by (with_reducible repeat (first|refine blk_drewN ?_ _|refine blk_drew ?_|refine blk_alloc ?_ _));exact BK212.out⟩,⟨by (with_reducible repeat (first|refine blk_drewN ?_ _|refine blk_drew ?_|refine blk_alloc ?_ _));exact BK213.out⟩,⟨by repeat (first|(with_reducible first|exact HB.out|apply below_alloc|apply pw_below_drewN|apply below_drew1|refine below_set ?_ GE212.out|refine below_set ?_ GE213.out)|exact HB.out)⟩⟩
    case rest =>
     clear HC19
     try clear c1
     try clear c2
     try clear p2
     try clear c3
     try clear p6
     try clear c7
     try clear c8
     try clear c11
     try clear c14
     try clear c15
     try clear c20
     try clear c25
     try clear c25b0
     try clear c26
     try clear c26b0
     try clear hcz12_0
     try clear hcz12_1
     try clear hcz16_0
     try clear hcz16_1
     try clear hcz21_0
     try clear hcz21_1
     try clear hcz9_0
     try clear hcz9_1
     try clear hfz12_0
     try clear hfz12_1
     try clear hfz16_0
     try clear hfz16_1
     try clear hfz21_0
     try clear hfz21_1
     try clear hfz9_0
     try clear hfz9_1
     try clear p2
     obtain ⟨kq,x42_18,rfl,HA,HJ18,BK212,BK213,HB⟩:=hcut
     cases kq with
     | zero=>exact absurd HA.out (by simp [spec_PutText.j1])
     | succ kj18 =>
      have H:=HA.out
      clear HA
      simp only [spec_PutText.j1] at H
      by_cases c27:x42_18 = true
      ·subst c27
       have H1:(some (([]:List ByteArray),([]:List ByteArray),false)) = some (r1,r2,r3):=by rw [if_pos rfl] at H;exact H
       clear H
       have H:=H1
       clear H1
       simp only [Option.some.injEq,Prod.mk.injEq] at H
       obtain ⟨rfl,rfl,rfl⟩:=H
       have hnb28:=NB213_212.out
       have hnc28:=NB212_213.out
       have hcz29_0:wc.cell? ⟨gb213,0,none⟩ = some (.slice none 0 0):=(blk_cell BK213.out 0).trans rfl
       have hcz29_1:wc.cell? ⟨gb213,1,none⟩ = some (.slice none 0 0):=(blk_cell BK213.out 1).trans rfl
       have hfz29_0:=blk_frozen BK213.out 0
       have hfz29_1:=blk_frozen BK213.out 1
       go_wp2
       refine bodyPost_ret (results_ct rfl _ _ gb213 34 #[.slice none 0 0,.slice none 0 0] (0,0) _ rfl (by (with_reducible repeat (first|refine blk_drewN ?_ _|refine blk_drew ?_|refine blk_alloc ?_ _));refine blk_put (cs:=#[.slice none 0 0,.slice none 0 0]) ?_ 1 _ rfl;(with_reducible repeat (first|refine blk_drewN ?_ _|refine blk_drew ?_|refine blk_alloc ?_ _));refine blk_put (cs:=#[.slice none 0 0,.slice none 0 0]) ?_ 0 _ rfl;(with_reducible repeat (first|refine blk_drewN ?_ _|refine blk_drew ?_|refine blk_alloc ?_ _));exact BK213.out) Try.underlying34 rfl (by kernel_rfl)) rfl ?_
       exact ⟨_,_,by first|rfl|(simp [errW_none,errW_some] <;> rfl)|(simp [*,errW_none,errW_some] <;> rfl),by first|exact Kd.R_nil _ _ _ _ _|exact Kd.N_nil _ _ _ _ _|exact Kd.V_nil _ _ _ _ _|exact Kd.Q_nil _ _ _ _ _|exact Kd.S_nil _ _ _ _ _,by first|exact Kd.R_nil _ _ _ _ _|exact Kd.N_nil _ _ _ _ _|exact Kd.V_nil _ _ _ _ _|exact Kd.Q_nil _ _ _ _ _|exact Kd.S_nil _ _ _ _ _,by repeat (first|(with_reducible first|exact HB.out|apply below_alloc|apply pw_below_drewN|apply below_drew1|refine below_set ?_ GE212.out|refine below_set ?_ GE213.out)|exact HB.out)⟩
      ·replace c27:=Bool.eq_false_iff.mpr c27
       subst c27
       have H1:((spec_l13Own.f l0_0 l0_1).bind fun bt222=>((spec_l13Put.f kj18 t219 a1).bind fun t229=>(if bt222.2.length + t229.length < 8796093022208 then (some (bt222.1,(bt222.2 ++ t229),true)) else (none)))) = some (r1,r2,r3):=by rw [if_neg (show ¬ (false = true) by decide)] at H;exact H
       clear H
       have H:=H1
       clear H1
       replace H:=Option.bind_eq_some_iff.mp H
       obtain ⟨⟨t222,t225⟩,A300,H⟩:=H
       replace H:((spec_l13Put.f kj18 t219 a1).bind fun t229=>(if t225.length + t229.length < 8796093022208 then (some (t222,(t225 ++ t229),true)) else (none))) = some (r1,r2,r3):=H
       have A30:=Aside0.mk A300
       clear A300
       replace H:=Option.bind_eq_some_iff.mp H
       obtain ⟨t229,A310,H⟩:=H
       replace H:(if t225.length + t229.length < 8796093022208 then (some (t222,(t225 ++ t229),true)) else (none)) = some (r1,r2,r3):=H
       have A31:=Aside0.mk A310
       clear A310
       by_cases c32:t225.length + t229.length < 8796093022208
       ·rw [if_pos c32] at H
        have LMc32:=Aside0.mk c32
        clear c32
        obtain ⟨y232,hy232⟩:∃ y_:List ByteArray,y_ = (t225 ++ t229):=⟨_,rfl⟩
        replace H:(some (t222,y232,true)) = some (r1,r2,r3):=by first|(rw [hy232];with_reducible exact H)|(have H2_:=(Option.bind_some _ _).symm.trans H;rw [hy232];with_reducible exact H2_)|(have H2_:=(Option.bind_some _ _).symm.trans H;with_reducible exact H2_)|with_reducible exact H|(rw [hy232];exact H)|exact H
        have Ny232:=Aside0.mk hy232
        clear hy232
        simp only [Option.some.injEq,Prod.mk.injEq] at H
        obtain ⟨rfl,rfl,rfl⟩:=H
        have hnb33:=NB212_213.out
        have hnc33:=NB213_212.out
        have hcz34_0:wc.cell? ⟨gb212,0,none⟩ = some (.slice A0_0 l0_0.length c0_0):=(blk_cell BK212.out 0).trans rfl
        have hcz34_1:wc.cell? ⟨gb212,1,none⟩ = some (.slice A0_1 l0_1.length c0_1):=(blk_cell BK212.out 1).trans rfl
        have hfz34_0:=blk_frozen BK212.out 0
        have hfz34_1:=blk_frozen BK212.out 1
        try go_wp2_with (first|((with_reducible refine gate_callee (f:=42) rfl ?_);refine goesL_ (some 45) rfl rfl Try.func42 (by kernel_rfl) rfl #[.agg #[.slice A0_0 l0_0.length c0_0,.slice A0_1 l0_1.length c0_1]] rfl (by (try simp only [List.map_toArray,List.map_cons,List.map_nil]);first|done|rfl|(simp only [List.length_drop,List.length_take];rfl)) ?_;(with_reducible refine (spec_l13Own.calls _ _ l0_0 _ _ l0_1 t222 t225 _ ?side1 ?side2 ?side3 ?side4 A30.out).mono ?_);(case side1=>repeat (first|exact (Kd.C_below HR0_0.out HB.out)|(with_reducible refine Kd.C_alloc ?_ _)|(with_reducible refine Kd.C_drewN ?_ _)|(with_reducible refine Kd.C_drew ?_)));(case side2=>exact HC0_0.out);(case side3=>repeat (first|exact (Kd.C_below HR0_1.out HB.out)|(with_reducible refine Kd.C_alloc ?_ _)|(with_reducible refine Kd.C_drewN ?_ _)|(with_reducible refine Kd.C_drew ?_)));(case side4=>exact HC0_1.out);rintro e w35 ⟨v223,v226,rfl,ho0,ho1,hb⟩;refine ⟨_,rfl,?_⟩;have n0_:=Aside0.mk (Kd.R_lower ho0 (below_size (by repeat (first|(with_reducible first|exact HB.out|apply below_alloc|apply pw_below_drewN|apply below_drew1|refine below_set ?_ GE212.out|refine below_set ?_ GE213.out)|exact HB.out))));have n1_:=Aside0.mk (Kd.R_lower ho1 (below_size (by repeat (first|(with_reducible first|exact HB.out|apply below_alloc|apply pw_below_drewN|apply below_drew1|refine below_set ?_ GE212.out|refine below_set ?_ GE213.out)|exact HB.out))));have n2_:=Aside0.mk (blk_below (g:=gb212) (o:=.cells #[.slice A0_0 l0_0.length c0_0,.slice A0_1 l0_1.length c0_1] 34 (0,0)) (by (with_reducible repeat (first|refine blk_drewN ?_ _|refine blk_drew ?_|refine blk_alloc ?_ _));exact BK212.out) hb);have n3_:=Aside0.mk (blk_below (g:=gb213) (o:=.cells #[.slice none 0 0,.slice none 0 0] 34 (0,0)) (by (with_reducible repeat (first|refine blk_drewN ?_ _|refine blk_drew ?_|refine blk_alloc ?_ _));exact BK213.out) hb);have n4_:=Aside0.mk (below_step (by repeat (first|(with_reducible first|exact HB.out|apply below_alloc|apply pw_below_drewN|apply below_drew1|refine below_set ?_ GE212.out|refine below_set ?_ GE213.out)|exact HB.out)) hb);clear BK212;clear BK213;clear HB;have HO224:=n0_;have HO227:=n1_;have BK212:=n2_;have BK213:=n3_;have HB:=n4_;clear n0_ n1_ n2_ n3_ n4_;(try clear hb);(try clear hb2);(try clear hk);(try clear hi);(try clear ho0);(try clear ho1))|((with_reducible refine gate_dst (N:=9) rfl ?_);(try (refine gate_guard (by rfl) ?_;dsimp only));refine box_event ?hg (N:=9) ?hd (cs:=#[.slice none 0 0,.slice none 0 0]) (t:=34) ?hr ?_;(case hd=>rfl);(case hg=>rfl);(case hr=>first|(go_simp;done)|(go_simp;rfl));intro gb228 hg w36 hbox hb;have n0_:=Aside0.mk (Kd.R_below (by (with_reducible repeat (first|apply Kd.R_alloc|apply Kd.R_drewN|apply Kd.R_drew));exact HO224.out) hb);have n1_:=Aside0.mk (Kd.R_below (by (with_reducible repeat (first|apply Kd.R_alloc|apply Kd.R_drewN|apply Kd.R_drew));exact HO227.out) hb);have n2_:=Aside0.mk (blk_below (g:=gb212) (o:=.cells #[.slice A0_0 l0_0.length c0_0,.slice A0_1 l0_1.length c0_1] 34 (0,0)) (by (with_reducible repeat (first|refine blk_drewN ?_ _|refine blk_drew ?_|refine blk_alloc ?_ _));exact BK212.out) hb);have n3_:=Aside0.mk (blk_below (g:=gb213) (o:=.cells #[.slice none 0 0,.slice none 0 0] 34 (0,0)) (by (with_reducible repeat (first|refine blk_drewN ?_ _|refine blk_drew ?_|refine blk_alloc ?_ _));exact BK213.out) hb);have n4_:=Aside0.mk (below_step (by repeat (first|(with_reducible first|exact HB.out|apply below_alloc|apply pw_below_drewN|apply below_drew1|refine below_set ?_ GE212.out|refine below_set ?_ GE213.out)|exact HB.out)) hb);have n5_:=Aside0.mk (hbox);have n6_:=Aside0.mk ((by rw [hg];exact (below_size (by repeat (first|(with_reducible first|exact HB.out|apply below_alloc|apply pw_below_drewN|apply below_drew1|refine below_set ?_ GE212.out|refine below_set ?_ GE213.out)|exact HB.out))):w.heap.size ≤ gb228));have n7_:=Aside0.mk ((by rw [hg];exact (below_size (by repeat (first|(with_reducible first|exact HB.out|apply below_alloc|apply pw_below_drewN|apply below_drew1|refine below_set ?_ GE212.out|refine below_set ?_ GE213.out)|exact HB.out))):w.heap.size ≤ gb228));have n8_:=Aside0.mk ((by rw [hg];exact Nat.ne_of_lt (blk_lt (g:=gb212) (o:=.cells #[.slice A0_0 l0_0.length c0_0,.slice A0_1 l0_1.length c0_1] 34 (0,0)) (by (with_reducible repeat (first|refine blk_drewN ?_ _|refine blk_drew ?_|refine blk_alloc ?_ _));exact BK212.out)):gb212 ≠ gb228));have n9_:=Aside0.mk ((by rw [hg];exact Nat.ne_of_gt (blk_lt (g:=gb212) (o:=.cells #[.slice A0_0 l0_0.length c0_0,.slice A0_1 l0_1.length c0_1] 34 (0,0)) (by (with_reducible repeat (first|refine blk_drewN ?_ _|refine blk_drew ?_|refine blk_alloc ?_ _));exact BK212.out)):gb228 ≠ gb212));have n10_:=Aside0.mk ((by rw [hg];exact Nat.ne_of_lt (blk_lt (g:=gb213) (o:=.cells #[.slice none 0 0,.slice none 0 0] 34 (0,0)) (by (with_reducible repeat (first|refine blk_drewN ?_ _|refine blk_drew ?_|refine blk_alloc ?_ _));exact BK213.out)):gb213 ≠ gb228));have n11_:=Aside0.mk ((by rw [hg];exact Nat.ne_of_gt (blk_lt (g:=gb213) (o:=.cells #[.slice none 0 0,.slice none 0 0] 34 (0,0)) (by (with_reducible repeat (first|refine blk_drewN ?_ _|refine blk_drew ?_|refine blk_alloc ?_ _));exact BK213.out)):gb228 ≠ gb213));clear HO224;clear HO227;clear BK212;clear BK213;clear HB;have HO224:=n0_;have HO227:=n1_;have BK212:=n2_;have BK213:=n3_;have HB:=n4_;have BK228:=n5_;have GW228:=n6_;have GE228:=n7_;have NB212_228:=n8_;have NB228_212:=n9_;have NB213_228:=n10_;have NB228_213:=n11_;clear n0_ n1_ n2_ n3_ n4_ n5_ n6_ n7_ n8_ n9_ n10_ n11_;clear hb hbox hg;obtain ⟨Ao37,co37,eo37⟩:=Kd.R_slice HO224.out;subst eo37;have hnb38:=NB228_212.out;have hnc38:=NB212_228.out;have hnb39:=NB228_213.out;have hnc39:=NB213_228.out;have hcz40_0:w36.cell? ⟨gb228,0,none⟩ = some (.slice none 0 0):=(blk_cell BK228.out 0).trans rfl;have hcz40_1:w36.cell? ⟨gb228,1,none⟩ = some (.slice none 0 0):=(blk_cell BK228.out 1).trans rfl;have hfz40_0:=blk_frozen BK228.out 0;have hfz40_1:=blk_frozen BK228.out 1;obtain ⟨Ao41,co41,eo41⟩:=Kd.R_slice HO227.out;subst eo41))
        have n0_:Aside0 (Kd.R Kd.string 9 ((w36.setCell ⟨gb228,0,none⟩ (.slice Ao37 t222.length co37)).setCell ⟨gb228,1,none⟩ (.slice Ao41 t225.length co41)) w.heap.size (fun k_=>some k_ ≠ (.slice Ao41 t225.length co41:Value).ownBlock) (.slice Ao37 t222.length co37) t222):=⟨by (with_reducible repeat (first|apply Kd.R_alloc|apply Kd.R_drewN|apply Kd.R_drew));exact Kd.R_mono (Kd.R_far (p:=⟨gb228,1,none⟩) (Kd.R_far (p:=⟨gb228,0,none⟩) (Kd.R_types HO224.out BK228.out (by decide)) (fun _ hk=>hk.2) (.slice Ao37 t222.length co37)) (fun _ hk=>hk.2) (.slice Ao41 t225.length co41)) (fun _ hk=>hk.1)⟩
        have n1_:Aside0 (Kd.R Kd.string 9 ((w36.setCell ⟨gb228,0,none⟩ (.slice Ao37 t222.length co37)).setCell ⟨gb228,1,none⟩ (.slice Ao41 t225.length co41)) w.heap.size (fun k_=>some k_ ≠ (.slice Ao37 t222.length co37:Value).ownBlock) (.slice Ao41 t225.length co41) t225):=⟨by (with_reducible repeat (first|apply Kd.R_alloc|apply Kd.R_drewN|apply Kd.R_drew));exact Kd.R_mono (Kd.R_far (p:=⟨gb228,1,none⟩) (Kd.R_far (p:=⟨gb228,0,none⟩) (Kd.R_types HO227.out BK228.out (by decide)) (fun _ hk=>hk.2) (.slice Ao37 t222.length co37)) (fun _ hk=>hk.2) (.slice Ao41 t225.length co41)) (fun _ hk=>hk.1)⟩
        have n2_:Aside0 (((w36.setCell ⟨gb228,0,none⟩ (.slice Ao37 t222.length co37)).setCell ⟨gb228,1,none⟩ (.slice Ao41 t225.length co41)).heap[gb212]? = some (.cells #[.slice A0_0 l0_0.length c0_0,.slice A0_1 l0_1.length c0_1] 34 (0,0))):=⟨by (with_reducible repeat (first|refine blk_drewN ?_ _|refine blk_drew ?_|refine blk_alloc ?_ _));refine blk_far ?_ NB212_228.out _;(with_reducible repeat (first|refine blk_drewN ?_ _|refine blk_drew ?_|refine blk_alloc ?_ _));refine blk_far ?_ NB212_228.out _;(with_reducible repeat (first|refine blk_drewN ?_ _|refine blk_drew ?_|refine blk_alloc ?_ _));exact BK212.out⟩
        have n3_:Aside0 (((w36.setCell ⟨gb228,0,none⟩ (.slice Ao37 t222.length co37)).setCell ⟨gb228,1,none⟩ (.slice Ao41 t225.length co41)).heap[gb213]? = some (.cells #[.slice none 0 0,.slice none 0 0] 34 (0,0))):=⟨by (with_reducible repeat (first|refine blk_drewN ?_ _|refine blk_drew ?_|refine blk_alloc ?_ _));refine blk_far ?_ NB213_228.out _;(with_reducible repeat (first|refine blk_drewN ?_ _|refine blk_drew ?_|refine blk_alloc ?_ _));refine blk_far ?_ NB213_228.out _;(with_reducible repeat (first|refine blk_drewN ?_ _|refine blk_drew ?_|refine blk_alloc ?_ _));exact BK213.out⟩
        have n4_:Aside0 (((w36.setCell ⟨gb228,0,none⟩ (.slice Ao37 t222.length co37)).setCell ⟨gb228,1,none⟩ (.slice Ao41 t225.length co41)).heap[gb228]? = some (.cells #[.slice Ao37 t222.length co37,.slice Ao41 t225.length co41] 34 (0,0))):=⟨by (with_reducible repeat (first|refine blk_drewN ?_ _|refine blk_drew ?_|refine blk_alloc ?_ _));refine blk_put (cs:=#[.slice Ao37 t222.length co37,.slice none 0 0]) ?_ 1 _ rfl;(with_reducible repeat (first|refine blk_drewN ?_ _|refine blk_drew ?_|refine blk_alloc ?_ _));refine blk_put (cs:=#[.slice none 0 0,.slice none 0 0]) ?_ 0 _ rfl;(with_reducible repeat (first|refine blk_drewN ?_ _|refine blk_drew ?_|refine blk_alloc ?_ _));exact BK228.out⟩
        have n5_:Aside0 (Below w.heap.size w ((w36.setCell ⟨gb228,0,none⟩ (.slice Ao37 t222.length co37)).setCell ⟨gb228,1,none⟩ (.slice Ao41 t225.length co41))):=⟨by repeat (first|(with_reducible first|exact HB.out|apply below_alloc|apply pw_below_drewN|apply below_drew1|refine below_set ?_ GE212.out|refine below_set ?_ GE213.out|refine below_set ?_ GE228.out)|exact HB.out)⟩
        (try clear HO224)
        (try clear HO227)
        (try clear BK212)
        (try clear BK213)
        (try clear BK228)
        (try clear HB)
        generalize ((w36.setCell ⟨gb228,0,none⟩ (.slice Ao37 t222.length co37)).setCell ⟨gb228,1,none⟩ (.slice Ao41 t225.length co41)) = w42 at n0_ n1_ n2_ n3_ n4_ n5_ ⊢
        have HO224:=n0_
        have HO227:=n1_
        have BK212:=n2_
        have BK213:=n3_
        have BK228:=n4_
        have HB:=n5_
        clear n0_ n1_ n2_ n3_ n4_ n5_
        have n0_:=Aside0.mk (Kd.R_drew HO224.out)
        have n1_:=Aside0.mk (Kd.R_drew HO227.out)
        have n2_:=Aside0.mk (blk_drew BK212.out)
        have n3_:=Aside0.mk (blk_drew BK213.out)
        have n4_:=Aside0.mk (blk_drew BK228.out)
        have n5_:=Aside0.mk (below_drew1 HB.out)
        clear HO224
        clear HO227
        clear BK212
        clear BK213
        clear BK228
        clear HB
        have HO224:=n0_
        have HO227:=n1_
        have BK212:=n2_
        have BK213:=n3_
        have BK228:=n4_
        have HB:=n5_
        clear n0_ n1_ n2_ n3_ n4_ n5_
        refine start_ (n:=8) (S:=fun w'=>w'.cell? ⟨gb228,0,none⟩ = some (.slice Ao37 t222.length co37) ∧ w'.cell? ⟨gb228,1,none⟩ = some (.slice Ao41 t225.length co41)) (ds:=[7]) #[false,false,false,false,false,false,false,false] (by kernel_rfl) rfl rfl ⟨(blk_cell BK228.out 0).trans rfl,(blk_cell BK228.out 1).trans rfl⟩ (fun hHeld=>?_);refine with_tabW spec_PutText.tab8 spec_PutText.bits8 (fun HT_ HW_=>?_)
        generalize w42.drew = w43 at HO224 HO227 BK212 BK213 BK228 HB hHeld ⊢
        refine pure_ (i:=0) (N:=some 46) (v:=?_) (a':=?_) #[true,false,false,false,false,false,false,false] rfl rfl (any_of HT_.out (by kernel_rfl)) (fun _ _ _ h=>h) (Or.inl ⟨by rfl,?_⟩) ?_ ?_
        rotate_left
        ·intro w'
         go_simp
         with_reducible rfl
        rotate_left
        ·simp only [Act.put,List.setIfInBounds_toArray,List.set_cons_zero,List.set_cons_succ,i64_w,i32_w]
         rfl
        refine pure_ (i:=2) (N:=some 48) (v:=?_) (a':=?_) #[true,false,true,false,false,false,false,false] rfl rfl (any_of HT_.out (by kernel_rfl)) (fun _ _ _ h=>h) (Or.inl ⟨by rfl,?_⟩) ?_ ?_
        rotate_left
        ·intro w'
         go_simp
         with_reducible rfl
        rotate_left
        ·simp only [Act.put,List.setIfInBounds_toArray,List.set_cons_zero,List.set_cons_succ,i64_w,i32_w]
         rfl
        refine pure_ (i:=3) (N:=some 49) (v:=?_) (a':=?_) #[true,false,true,true,false,false,false,false] rfl rfl (any_of HT_.out (by kernel_rfl)) (fun _ _ _ h=>h) (Or.inl ⟨by rfl,?_⟩) ?_ ?_
        rotate_left
        ·intro w'
         go_simp
         with_reducible rfl
        rotate_left
        ·simp only [Act.put,List.setIfInBounds_toArray,List.set_cons_zero,List.set_cons_succ,i64_w,i32_w]
         rfl
        refine take_ (i:=1) (N:=some 47) (v:=?_) (a':=?_) #[true,true,true,true,false,false,false,false] rfl rfl (take_ofW HT_.out HW_.out (by kernel_rfl)) (fun _ _ _ h=>h) (Or.inl ⟨by rfl,?_⟩) hHeld ?_ ?_
        rotate_left
        ·rintro w' ⟨s0,s1⟩
         go_simp
         with_reducible rfl
        rotate_left
        ·simp only [Act.put,List.setIfInBounds_toArray,List.set_cons_zero,List.set_cons_succ,i64_w,i32_w]
         rfl
        refine one_ (i:=4) (N:=some 50) #[true,true,true,true,true,false,false,false] rfl rfl (one_of HT_.out (by kernel_rfl)) (by decide) (fun K hK=>?_)
        refine goes_ Try.func43 (by kernel_rfl) rfl #[.int .i64 t219,.string a1] (by rfl) rfl rfl (by (try simp only [List.map_toArray,List.map_cons,List.map_nil]);first|done|rfl|(simp only [List.length_drop,List.length_take];rfl)) ?_
        with_reducible refine (spec_l13Put.calls kj18 t219 a1 t229 _ A31.out).mono ?_
        rintro e w44 ⟨v230,rfl,ho0,hb⟩
        refine ⟨_,rfl,?_⟩
        have n0_:=Aside0.mk (Kd.R_elder' (by (with_reducible repeat (first|apply Kd.R_alloc|apply Kd.R_drewN|apply Kd.R_drew));exact HO224.out) (Kd.R_base ho0) hb)
        have n1_:=Aside0.mk (Kd.R_elder' (by (with_reducible repeat (first|apply Kd.R_alloc|apply Kd.R_drewN|apply Kd.R_drew));exact HO227.out) (Kd.R_base ho0) hb)
        have n2_:=Aside0.mk (Kd.R_lower (Kd.R_new' (Kd.R_new' ho0 (Kd.R_lt (by (with_reducible repeat (first|apply Kd.R_alloc|apply Kd.R_drewN|apply Kd.R_drew));exact HO224.out))) (Kd.R_lt (by (with_reducible repeat (first|apply Kd.R_alloc|apply Kd.R_drewN|apply Kd.R_drew));exact HO227.out))) (below_size (by repeat (first|(with_reducible first|exact HB.out|apply below_alloc|apply pw_below_drewN|apply below_drew1|refine below_set ?_ GE212.out|refine below_set ?_ GE213.out|refine below_set ?_ GE228.out)|exact HB.out))))
        have n3_:=Aside0.mk (blk_below (g:=gb212) (o:=.cells #[.slice A0_0 l0_0.length c0_0,.slice A0_1 l0_1.length c0_1] 34 (0,0)) (by (with_reducible repeat (first|refine blk_drewN ?_ _|refine blk_drew ?_|refine blk_alloc ?_ _));exact BK212.out) hb)
        have n4_:=Aside0.mk (blk_below (g:=gb213) (o:=.cells #[.slice none 0 0,.slice none 0 0] 34 (0,0)) (by (with_reducible repeat (first|refine blk_drewN ?_ _|refine blk_drew ?_|refine blk_alloc ?_ _));exact BK213.out) hb)
        have n5_:=Aside0.mk (blk_below (g:=gb228) (o:=.cells #[.slice Ao37 t222.length co37,.slice Ao41 t225.length co41] 34 (0,0)) (by (with_reducible repeat (first|refine blk_drewN ?_ _|refine blk_drew ?_|refine blk_alloc ?_ _));exact BK228.out) hb)
        have n6_:=Aside0.mk (below_step (by repeat (first|(with_reducible first|exact HB.out|apply below_alloc|apply pw_below_drewN|apply below_drew1|refine below_set ?_ GE212.out|refine below_set ?_ GE213.out|refine below_set ?_ GE228.out)|exact HB.out)) hb)
        clear HO224
        clear HO227
        clear BK212
        clear BK213
        clear BK228
        clear HB
        have HO224:=n0_
        have HO227:=n1_
        have HO231:=n2_
        have BK212:=n3_
        have BK213:=n4_
        have BK228:=n5_
        have HB:=n6_
        clear n0_ n1_ n2_ n3_ n4_ n5_ n6_
        (try clear hb)
        (try clear hb2)
        (try clear hk)
        (try clear hi)
        (try clear ho0)
        obtain ⟨Ao46,co46,eo46⟩:=Kd.R_slice HO231.out
        (first|subst eo46|(injection eo46 with f1_ f2_ f3_;have f4_:=f1_.symm;have f5_:=f3_.symm;clear f1_ f2_ f3_;subst f4_;subst f5_))
        refine hK.out _ _ ⟨(blk_cell BK228.out 0).trans rfl,(blk_cell BK228.out 1).trans rfl⟩ (fun hHeld=>?_)
        clear hK K
        refine norm_ (a':=?_) ?_ ?_
        rotate_left
        ·show Act.put _ (some 50) _ = _
         simp only [Act.put,List.setIfInBounds_toArray,List.set_cons_zero,List.set_cons_succ,i64_w,i32_w]
         rfl
        refine one_ (i:=5) (N:=some 51) #[true,true,true,true,true,true,false,false] rfl rfl (one_of HT_.out (by kernel_rfl)) (by decide) (fun K hK=>?_)
        refine Kd.R_append_rows_step Kd.string (w0:=w) w.heap.size (by rfl) (.tmp 47) (.tmp 50) 28 9 (.string ⟨#[]⟩) 16 rfl Try.underlying28 info9 rfl (by decide) (by first|decide|omega) (.slice Ao41 t225.length co41) t225 t229 _ _ _ (fun k_=>some k_ ≠ (.slice Ao37 t222.length co37:Value).ownBlock ∧ some k_ ≠ (.slice Ao46 t229.length co46:Value).ownBlock) (fun _=>False) rfl rfl ?aO ?aR (fun _ _ h=>h) (fun _ h=>h.elim) ?aF ?aB ?aS ?aL ?_
        (case aR=>repeat (first|exact (Kd.R_reads' HO231.out).2.2|(with_reducible refine Kd.C_alloc ?_ _)|(with_reducible refine Kd.C_drewN ?_ _)|(with_reducible refine Kd.C_drew ?_)))
        (case aB=>exact (by repeat (first|(with_reducible first|exact HB.out|apply below_alloc|apply pw_below_drewN|apply below_drew1|refine below_set ?_ GE212.out|refine below_set ?_ GE213.out|refine below_set ?_ GE228.out)|exact HB.out)))
        (case aF=>exact (fun k_ hk=>⟨Kd.fresh' (Kd.R_lt (by (with_reducible repeat (first|apply Kd.R_alloc|apply Kd.R_drewN|apply Kd.R_drew));exact HO224.out)) k_ hk,Kd.fresh' (Kd.R_lt (by (with_reducible repeat (first|apply Kd.R_alloc|apply Kd.R_drewN|apply Kd.R_drew));exact HO231.out)) k_ hk⟩))
        (case aO=>exact (by (with_reducible repeat (first|apply Kd.R_alloc|apply Kd.R_drewN|apply Kd.R_drew));exact HO227.out))
        (case aS=>exact (below_size (by repeat (first|(with_reducible first|exact HB.out|apply below_alloc|apply pw_below_drewN|apply below_drew1|refine below_set ?_ GE212.out|refine below_set ?_ GE213.out|refine below_set ?_ GE228.out)|exact HB.out))))
        (case aL=>have:=LMc32.out;omega)
        intro v233 w45 ho hb hg hat
        rw [← Ny232.out] at ho
        have n0_:=Aside0.mk (blk_grown (g:=gb212) (o:=.cells #[.slice A0_0 l0_0.length c0_0,.slice A0_1 l0_1.length c0_1] 34 (0,0)) (by (with_reducible repeat (first|refine blk_drewN ?_ _|refine blk_drew ?_|refine blk_alloc ?_ _));exact BK212.out) hg (Kd.R_ne HO227.out BK212.out (by decide)))
        have n1_:=Aside0.mk (blk_grown (g:=gb213) (o:=.cells #[.slice none 0 0,.slice none 0 0] 34 (0,0)) (by (with_reducible repeat (first|refine blk_drewN ?_ _|refine blk_drew ?_|refine blk_alloc ?_ _));exact BK213.out) hg (Kd.R_ne HO227.out BK213.out (by decide)))
        have n2_:=Aside0.mk (Kd.R_after (ok:=(fun k_=>some k_ ≠ (.slice Ao46 t229.length co46:Value).ownBlock)) (by (with_reducible repeat (first|apply Kd.R_alloc|apply Kd.R_drewN|apply Kd.R_drew));exact Kd.R_mono HO224.out (fun _ hk=>⟨hk.2,hk.1⟩)) hg hat)
        have n3_:=Aside0.mk (blk_grown (g:=gb228) (o:=.cells #[.slice Ao37 t222.length co37,.slice Ao41 t225.length co41] 34 (0,0)) (by (with_reducible repeat (first|refine blk_drewN ?_ _|refine blk_drew ?_|refine blk_alloc ?_ _));exact BK228.out) hg (Kd.R_ne HO227.out BK228.out (by decide)))
        have n4_:=Aside0.mk (Kd.R_after (ok:=(fun k_=>some k_ ≠ (.slice Ao37 t222.length co37:Value).ownBlock)) (by (with_reducible repeat (first|apply Kd.R_alloc|apply Kd.R_drewN|apply Kd.R_drew));exact Kd.R_mono HO231.out (fun _ hk=>⟨hk.1.2,hk.2⟩)) hg hat)
        have n5_:=Aside0.mk (hb)
        have n6_:=Aside0.mk (ho)
        clear BK212
        clear BK213
        clear HO224
        clear BK228
        clear HO231
        clear HB
        clear HO227
        have BK212:=n0_
        have BK213:=n1_
        have HO224:=n2_
        have BK228:=n3_
        have HO231:=n4_
        have HB:=n5_
        have HO234:=n6_
        clear n0_ n1_ n2_ n3_ n4_ n5_ n6_
        clear ho hb hg hat
        obtain ⟨Ao47,co47,eo47⟩:=Kd.R_slice HO234.out
        (first|subst eo47|(injection eo47 with f1_ f2_ f3_;have f4_:=f1_.symm;have f5_:=f3_.symm;clear f1_ f2_ f3_;subst f4_;subst f5_))
        refine hK.out _ _ ⟨(blk_cell BK228.out 0).trans rfl,(blk_cell BK228.out 1).trans rfl⟩ (fun hHeld=>?_)
        clear hK K
        refine norm_ (a':=?_) ?_ ?_
        rotate_left
        ·show Act.put _ (some 51) _ = _
         simp only [Act.put,List.setIfInBounds_toArray,List.set_cons_zero,List.set_cons_succ,i64_w,i32_w]
         rfl
        refine pure_ (i:=6) (N:=some 52) (v:=?_) (a':=?_) #[true,true,true,true,true,true,true,false] rfl rfl (any_of HT_.out (by kernel_rfl)) (fun _ _ _ h=>h) (Or.inl ⟨by rfl,?_⟩) ?_ ?_
        rotate_left
        ·intro w'
         go_simp
         with_reducible rfl
        rotate_left
        ·simp only [Act.put,List.setIfInBounds_toArray,List.set_cons_zero,List.set_cons_succ,i64_w,i32_w]
         rfl
        refine last_ (i:=7) (N:=none) #[true,true,true,true,true,true,true,true] rfl rfl (one_of HT_.out (by kernel_rfl)) (by decide) (fun K hK=>?_)
        have hs48:w45.cell? ⟨gb228,1,none⟩ = some (.slice Ao41 t225.length co41):=(blk_cell BK228.out 1).trans rfl
        have hfs48:=blk_frozen BK228.out 1
        have hns48_0:=NB212_228.out
        have hns48_1:=NB213_228.out
        have hms48_0:=NB228_212.out
        have hms48_1:=NB228_213.out
        refine skip_ (w1:=?_) (by rfl) rfl ?_ ?_
        rotate_left
        ·go_simp
         rfl
        refine hK.out _ _ ?_
        clear hK K
        refine done_ (done_of HT_.out (by kernel_rfl)) ?_
        have hcz49_0:w45.cell? ⟨gb228,0,none⟩ = some (.slice Ao37 t222.length co37):=(blk_cell BK228.out 0).trans rfl
        have hcz49_1:w45.cell? ⟨gb228,1,none⟩ = some (.slice Ao41 t225.length co41):=(blk_cell BK228.out 1).trans rfl
        have hfz49_0:=blk_frozen BK228.out 0
        have hfz49_1:=blk_frozen BK228.out 1
        have hcz50_0:w45.cell? ⟨gb213,0,none⟩ = some (.slice none 0 0):=(blk_cell BK213.out 0).trans rfl
        have hcz50_1:w45.cell? ⟨gb213,1,none⟩ = some (.slice none 0 0):=(blk_cell BK213.out 1).trans rfl
        have hfz50_0:=blk_frozen BK213.out 0
        have hfz50_1:=blk_frozen BK213.out 1
        try go_wp2
        refine bodyPost_ret (results_ct rfl _ _ gb213 34 #[.slice Ao37 t222.length co37,.slice Ao47 y232.length co47] (0,0) _ rfl (by (with_reducible repeat (first|refine blk_drewN ?_ _|refine blk_drew ?_|refine blk_alloc ?_ _));refine blk_put (cs:=#[.slice Ao37 t222.length co37,.slice none 0 0]) ?_ 1 _ rfl;(with_reducible repeat (first|refine blk_drewN ?_ _|refine blk_drew ?_|refine blk_alloc ?_ _));refine blk_put (cs:=#[.slice none 0 0,.slice none 0 0]) ?_ 0 _ rfl;(with_reducible repeat (first|refine blk_drewN ?_ _|refine blk_drew ?_|refine blk_alloc ?_ _));refine blk_far ?_ NB213_228.out _;(with_reducible repeat (first|refine blk_drewN ?_ _|refine blk_drew ?_|refine blk_alloc ?_ _));exact BK213.out) Try.underlying34 rfl (by kernel_rfl)) rfl ?_
        exact ⟨_,_,by first|rfl|(simp [errW_none,errW_some] <;> rfl)|(simp [*,errW_none,errW_some] <;> rfl),by (with_reducible repeat (first|apply Kd.R_alloc|apply Kd.R_drewN|apply Kd.R_drew));exact Kd.R_mono (Kd.R_far (p:=⟨gb213,1,none⟩) (Kd.R_far (p:=⟨gb213,0,none⟩) (Kd.R_far (p:=⟨gb228,1,none⟩) (Kd.R_types (Kd.R_types HO224.out BK228.out (by decide)) BK213.out (by decide)) (fun _ hk=>hk.1.2) (.slice Ao47 y232.length co47)) (fun _ hk=>hk.2) (.slice Ao37 t222.length co37)) (fun _ hk=>hk.2) (.slice Ao47 y232.length co47)) (fun _ hk=>hk.1.1.2),by (with_reducible repeat (first|apply Kd.R_alloc|apply Kd.R_drewN|apply Kd.R_drew));exact Kd.R_mono (Kd.R_far (p:=⟨gb213,1,none⟩) (Kd.R_far (p:=⟨gb213,0,none⟩) (Kd.R_far (p:=⟨gb228,1,none⟩) (Kd.R_types (Kd.R_types HO234.out BK228.out (by decide)) BK213.out (by decide)) (fun _ hk=>hk.1.2) (.slice Ao47 y232.length co47)) (fun _ hk=>hk.2) (.slice Ao37 t222.length co37)) (fun _ hk=>hk.2) (.slice Ao47 y232.length co47)) (fun _ hk=>hk.1.1.1),by repeat (first|(with_reducible first|exact HB.out|apply below_alloc|apply pw_below_drewN|apply below_drew1|refine below_set ?_ GE212.out|refine below_set ?_ GE213.out|refine below_set ?_ GE228.out)|exact HB.out)⟩
       ·rw [if_neg c32] at H
        exact absurd H (by simp)

/-! ### strings_Repeat: function 47, by the kit's own contract -/
open Go.Shelf in
shelf_lay Lays.n105 Nm 105 at Try as Try.laysRepeat
theorem Try.extraRepeat:Builder.Extra Try.prog Try.laysRepeat_ren where
  sizeBuilder:=by kernel_rfl
  liesBuilder:=by kernel_rfl
  t5:=Try.laysRepeat.t5
  a5:=Try.laysRepeat.a5
  z5:=Try.laysRepeat.z5
  v5:=Try.laysRepeat.v5
  infoByte:=by kernel_rfl
  cellsByte:=by kernel_rfl
  sizeByte:=by kernel_rfl
  neB5:=by decide
theorem Try.fRepeat:Try.laysRepeat_ren.f 105 = 47:=by kernel_rfl
def strings_Repeat.f (l0:ByteArray) (a1:Int):Option (ByteArray):=if 0 ≤ a1 ∧ a1 ≤ 9223372036854775807 ∧ l0.size * a1.toNat ≤ 140737488355328 then some ⟨(Lib.repeatL l0.data.toList a1.toNat).toArray⟩ else none
theorem strings_Repeat.calls (l0:ByteArray) (a1:Int) (r:ByteArray) (w:World) (h:strings_Repeat.f l0 a1 = some r) :
    Calls Try.prog 47 #[.string l0,.int .i64 a1] w fun e w'=>e = .returned (.string r) ∧ Below w.heap.size w w':=by
  unfold strings_Repeat.f at h
  split at h
  · rename_i g
    obtain ⟨c,rfl⟩:∃ c:Nat,a1 = (c:Int):=⟨a1.toNat,by omega⟩
    have h':=Any.strings_Repeat Try.laysRepeat Try.extraRepeat l0 c w (by omega) (by simpa using g.2.2)
    rw [Try.fRepeat] at h'
    obtain rfl:=Option.some.inj h
    exact h'
  · simp at h

/-! ### impl_sumOf: function 59 -/
mutual
def impl_sumOf.l0:Nat → ByteArray → Int → Int → Int → Option (Int)
 | 0,_,_,_,_=>none
 | k + 1,x0,x3,x6,x7=>if x7 < x6 then (if 0 ≤ x7 then (if x7 < (x0.size:Int) then (impl_sumOf.l1 k x0 (Go.bits .xor .i64 x3 (wrap64 (256 * (wrap64 (bt x0 x7))))) x6 x7 0) else (none)) else (none)) else (some x3)
def impl_sumOf.l1:Nat → ByteArray → Int → Int → Int → Int → Option (Int)
 | 0,_,_,_,_,_=>none
 | k + 1,x0,x3,x6,x7,x17=>if x17 < 8 then (if (wrap64 (x3 * 2)) ≥ 65536 then (impl_sumOf.l1 k x0 (Go.bits .xor .i64 (wrap64 (x3 * 2)) 69665) x6 x7 (wrap64 (x17 + 1))) else (impl_sumOf.l1 k x0 (wrap64 (x3 * 2)) x6 x7 (wrap64 (x17 + 1)))) else (impl_sumOf.l0 k x0 x3 x6 (wrap64 (x7 + 1)))
end
def impl_sumOf.f (k:Nat) (a0:ByteArray):Option (Int):=impl_sumOf.l0 k a0 65535 (a0.size:Int) 0
theorem impl_sumOf.mono_l:∀ k,(∀ y0 y1 y2 y3,LeO (impl_sumOf.l0 k y0 y1 y2 y3) (impl_sumOf.l0 (k + 1) y0 y1 y2 y3)) ∧ (∀ y0 y1 y2 y3 y4,LeO (impl_sumOf.l1 k y0 y1 y2 y3 y4) (impl_sumOf.l1 (k + 1) y0 y1 y2 y3 y4))
 | 0=>⟨fun _ _ _ _ r h=>by simp [impl_sumOf.l0] at h,fun _ _ _ _ _ r h=>by simp [impl_sumOf.l1] at h⟩
 | k + 1=>by
  obtain ⟨ih0,ih1⟩:=impl_sumOf.mono_l k
  refine ⟨?_,?_⟩
  ·intro y0 y1 y2 y3
   unfold impl_sumOf.l0
   repeat' first
   | (with_reducible exact ih0 _ _ _ _)
   | (with_reducible exact ih1 _ _ _ _ _)
   | (with_reducible exact LeO.refl _)
   | (with_reducible exact LeO.none _)
   | (with_reducible refine LeO.ite ?_ ?_)
   | (with_reducible refine LeO.bind ?_ (fun _=>?_))
   | exact ih0 _ _ _ _
   | exact ih1 _ _ _ _ _
   | exact LeO.none _
   | refine LeO.ite ?_ ?_
   | refine LeO.bind ?_ (fun _=>?_)
  ·intro y0 y1 y2 y3 y4
   unfold impl_sumOf.l1
   repeat' first
   | (with_reducible exact ih0 _ _ _ _)
   | (with_reducible exact ih1 _ _ _ _ _)
   | (with_reducible exact LeO.refl _)
   | (with_reducible exact LeO.none _)
   | (with_reducible refine LeO.ite ?_ ?_)
   | (with_reducible refine LeO.bind ?_ (fun _=>?_))
   | exact ih0 _ _ _ _
   | exact ih1 _ _ _ _ _
   | exact LeO.none _
   | refine LeO.ite ?_ ?_
   | refine LeO.bind ?_ (fun _=>?_)
theorem impl_sumOf.mono:∀ a0 k,LeO (impl_sumOf.f k a0) (impl_sumOf.f (k + 1) a0):=by
 intro a0 k
 obtain ⟨ih0,ih1⟩:=impl_sumOf.mono_l k
 unfold impl_sumOf.f
 repeat' first
   | (with_reducible exact ih0 _ _ _ _)
   | (with_reducible exact ih1 _ _ _ _ _)
   | (with_reducible exact LeO.refl _)
   | (with_reducible exact LeO.none _)
   | (with_reducible refine LeO.ite ?_ ?_)
   | (with_reducible refine LeO.bind ?_ (fun _=>?_))
   | exact ih0 _ _ _ _
   | exact ih1 _ _ _ _ _
   | exact LeO.none _
   | refine LeO.ite ?_ ?_
   | refine LeO.bind ?_ (fun _=>?_)
set_option maxHeartbeats 8000000 in
set_option maxRecDepth 100000 in
theorem impl_sumOf.calls (k:Nat) (a0:ByteArray) (r:Int) (w:World) (h:impl_sumOf.f k a0 = some r) :
  Calls Try.prog 59 #[.string a0] w fun e w'=>e = .returned (.int .i64 r) ∧ Drawn0 w w':=by
 have H:(impl_sumOf.l0 k a0 65535 (a0.size:Int) 0) = some r:=h
 clear h
 have H':=Aside0.mk H
 clear H
 go_enter Try.func59,Try.ntmps59
 go_wp2
 go_loopg [3,7] k (fun kq v3 v7 w'=>∃ (x3_1:Int) (x7_1:Int),v3 = .int .i64 x3_1 ∧ v7 = .int .i64 x7_1 ∧ Aside0 (impl_sumOf.l0 kq a0 x3_1 (a0.size:Int) x7_1 = some r) ∧ Aside0 (kq ≤ k) ∧ Drawn0 w w')
 case atStart=>exact ⟨(65535),(0),(by first|rfl|(simp;done)|(simp [*];done)),(by first|rfl|(simp;done)|(simp [*];done)),H',⟨Nat.le_refl _⟩,by repeat (first|exact Drawn0.refl _|apply Drawn0.step)⟩
 case round =>
  clear H'
  obtain ⟨x3_1,x7_1,rfl,rfl,HA,HK1,⟨m1,rfl⟩⟩:=hrel
  cases gk with
  | zero=>exact absurd HA.out (by simp [impl_sumOf.l0])
  | succ k1 =>
   have H:=HA.out
   clear HA
   simp only [impl_sumOf.l0] at H
   by_cases c2:x7_1 < (a0.size:Int)
   ·rw [if_pos c2] at H
    have c2b0:decide (x7_1 < (a0.size:Int)) = true:=decide_eq_true c2
    clear c2
    by_cases c3:0 ≤ x7_1
    ·rw [if_pos c3] at H
     have c3b0:decide (0 ≤ x7_1) = true:=decide_eq_true c3
     clear c3
     by_cases c4:x7_1 < (a0.size:Int)
     ·rw [if_pos c4] at H
      have c4b0:decide (x7_1 < (a0.size:Int)) = true:=decide_eq_true c4
      clear c4
      have H':=Aside0.mk H
      clear H
      have p5:0 ≤ (x7_1:Int):=of_decide_eq_true (by first|(with_reducible assumption)|assumption)
      have q5:x7_1 < (a0.size:Int):=of_decide_eq_true (by first|(with_reducible assumption)|assumption)
      have hx5:=bt_at a0 x7_1
      replace p5:=eq_true p5
      replace q5:=eq_true q5
      go_wp2
      go_loopg [3,17] k1 (fun kq v3 v17 w'=>∃ (x3_2:Int) (x17_2:Int),v3 = .int .i64 x3_2 ∧ v17 = .int .i64 x17_2 ∧ Aside0 (impl_sumOf.l1 kq a0 x3_2 (a0.size:Int) x7_1 x17_2 = some r) ∧ Aside0 (kq ≤ k1) ∧ Drawn0 w w')
      case atStart=>exact ⟨(Go.bits .xor .i64 x3_1 (wrap64 (256 * (wrap64 (bt a0 x7_1))))),(0),(by first|rfl|(simp;done)|(simp [*];done)),(by first|rfl|(simp;done)|(simp [*];done)),H',⟨Nat.le_refl _⟩,by repeat (first|exact Drawn0.refl _|apply Drawn0.step)⟩
      case round =>
       clear H'
       try clear c2
       try clear c2b0
       try clear p2
       try clear c3
       try clear c3b0
       try clear c4
       try clear c4b0
       try clear c5
       try clear p5
       try clear q5
       try clear hx5
       try clear p5
       try clear q5
       obtain ⟨x3_2,x17_2,rfl,rfl,HA,HK2,⟨m2,rfl⟩⟩:=hrel
       cases gk with
       | zero=>exact absurd HA.out (by simp [impl_sumOf.l1])
       | succ k2 =>
        have H:=HA.out
        clear HA
        simp only [impl_sumOf.l1] at H
        by_cases c6:x17_2 < 8
        ·rw [if_pos c6] at H
         have c6b0:decide (x17_2 < 8) = true:=decide_eq_true c6
         clear c6
         by_cases c7:(wrap64 (x3_2 * 2)) ≥ 65536
         ·rw [if_pos c7] at H
          have c7b0:decide (65536 ≤ (wrap64 (x3_2 * 2))) = true:=decide_eq_true c7
          clear c7
          have H':=Aside0.mk H
          clear H
          go_wp2
          go_roundg k2
          case measure=>have:=HK1.out;have:=HK2.out;omega
          case rel=>exact ⟨(Go.bits .xor .i64 (wrap64 (x3_2 * 2)) 69665),(wrap64 (x17_2 + 1)),(by first|rfl|(simp;done)|(simp [*];done)),(by first|rfl|(simp;done)|(simp [*];done)),H',⟨by have:=HK1.out;have:=HK2.out;omega⟩,by repeat (first|exact Drawn0.refl _|apply Drawn0.step)⟩
         ·rw [if_neg c7] at H
          have c7b0:decide (65536 ≤ (wrap64 (x3_2 * 2))) = false:=decide_eq_false c7
          clear c7
          have H':=Aside0.mk H
          clear H
          go_wp2
          go_roundg k2
          case measure=>have:=HK1.out;have:=HK2.out;omega
          case rel=>exact ⟨(wrap64 (x3_2 * 2)),(wrap64 (x17_2 + 1)),(by first|rfl|(simp;done)|(simp [*];done)),(by first|rfl|(simp;done)|(simp [*];done)),H',⟨by have:=HK1.out;have:=HK2.out;omega⟩,by repeat (first|exact Drawn0.refl _|apply Drawn0.step)⟩
        ·rw [if_neg c6] at H
         have c6b0:decide (x17_2 < 8) = false:=decide_eq_false c6
         clear c6
         have H':=Aside0.mk H
         clear H
         go_wp2
         go_roundg k2
         case measure=>have:=HK1.out;have:=HK2.out;omega
         case rel=>exact ⟨(x3_2),(wrap64 (x7_1 + 1)),(by first|rfl|(simp;done)|(simp [*];done)),(by first|rfl|(simp;done)|(simp [*];done)),H',⟨by have:=HK1.out;have:=HK2.out;omega⟩,by repeat (first|exact Drawn0.refl _|apply Drawn0.step)⟩
     ·rw [if_neg c4] at H
      exact absurd H (by simp)
    ·rw [if_neg c3] at H
     exact absurd H (by simp)
   ·rw [if_neg c2] at H
    have c2b0:decide (x7_1 < (a0.size:Int)) = false:=decide_eq_false c2
    clear c2
    obtain rfl:=Option.some.inj H
    go_wp2
    go_ret
    exact ⟨by first|rfl|(simp;done)|(simp [*];done),by repeat (first|exact Drawn0.refl _|apply Drawn0.step)⟩

/-! ### impl_summed: function 49 -/
def impl_summed.f (k:Nat) (a0:ByteArray):Option (ByteArray):=(impl_sumOf.f k a0).bind fun t235=>((some (([(wrap64 (Int.tdiv t235 256)) % 256,(Int.tmod t235 256) % 256]:List Int):List Int)).bind fun y236=>(if a0.size + (strOfNums y236).size ≤ 9223372036854775807 then (some (a0 ++ (strOfNums y236))) else (none)))
theorem impl_summed.mono:∀ a0 k,LeO (impl_summed.f k a0) (impl_summed.f (k + 1) a0):=by
 intro a0 k
 unfold impl_summed.f
 repeat' first
   | (with_reducible exact impl_sumOf.mono _ _)
   | (with_reducible exact LeO.refl _)
   | (with_reducible exact LeO.none _)
   | (with_reducible refine LeO.ite ?_ ?_)
   | (with_reducible refine LeO.bind ?_ (fun _=>?_))
   | exact impl_sumOf.mono _ _
   | exact LeO.none _
   | refine LeO.ite ?_ ?_
   | refine LeO.bind ?_ (fun _=>?_)
set_option maxHeartbeats 8000000 in
set_option maxRecDepth 100000 in
theorem impl_summed.calls (k:Nat) (a0:ByteArray) (r:ByteArray) (w:World) (h:impl_summed.f k a0 = some r) :
  Calls Try.prog 49 #[.string a0] w fun e w'=>e = .returned (.string r) ∧ Below w.heap.size w w':=by
 have HB:=Aside0.mk (Below.refl w.heap.size w)
 have H:((impl_sumOf.f k a0).bind fun t235=>((some (([(wrap64 (Int.tdiv t235 256)) % 256,(Int.tmod t235 256) % 256]:List Int):List Int)).bind fun y236=>(if a0.size + (strOfNums y236).size ≤ 9223372036854775807 then (some (a0 ++ (strOfNums y236))) else (none)))) = some r:=h
 clear h
 replace H:=Option.bind_eq_some_iff.mp H
 obtain ⟨t235,A20,H⟩:=H
 replace H:((some (([(wrap64 (Int.tdiv t235 256)) % 256,(Int.tmod t235 256) % 256]:List Int):List Int)).bind fun y236=>(if a0.size + (strOfNums y236).size ≤ 9223372036854775807 then (some (a0 ++ (strOfNums y236))) else (none))) = some r:=H
 have A2:=Aside0.mk A20
 clear A20
 obtain ⟨y236,hy236⟩:∃ y_:List Int,y_ = (([(wrap64 (Int.tdiv t235 256)) % 256,(Int.tmod t235 256) % 256]:List Int)):=⟨_,rfl⟩
 replace H:(if a0.size + (strOfNums y236).size ≤ 9223372036854775807 then (some (a0 ++ (strOfNums y236))) else (none)) = some r:=by first|(rw [hy236];with_reducible exact H)|(have H2_:=(Option.bind_some _ _).symm.trans H;rw [hy236];with_reducible exact H2_)|(have H2_:=(Option.bind_some _ _).symm.trans H;with_reducible exact H2_)|with_reducible exact H|(rw [hy236];exact H)|exact H
 have Ny236:=Aside0.mk hy236
 clear hy236
 by_cases c3:a0.size + (strOfNums y236).size ≤ 9223372036854775807
 ·rw [if_pos c3] at H
  have c3b0:=eq_true c3
  have c3b1:decide (a0.size + (strOfNums y236).size ≤ 9223372036854775807) = true:=decide_eq_true c3
  try have c3b2:(9223372036854775807 < a0.size + (strOfNums y236).size) = False:=eq_false (Nat.not_lt.2 c3)
  obtain rfl:=Option.some.inj H
  go_enter Try.func49,Try.ntmps49
  go_wp2_with (first|((with_reducible refine gate_callee (f:=59) rfl ?_);refine goesL_ (some 5) rfl rfl Try.func59 (by kernel_rfl) rfl #[.string a0] rfl (by (try simp only [List.map_toArray,List.map_cons,List.map_nil]);first|done|rfl|(simp only [List.length_drop,List.length_take];rfl)) ?_;(with_reducible refine (impl_sumOf.calls k a0 t235 _ A2.out).mono ?_);rintro e w' ⟨rfl,⟨nd,rfl⟩⟩;refine ⟨_,rfl,?_⟩)|((with_reducible refine gate_dst (N:=13) rfl ?_);refine Kd.R_lit (Kd.int .u8) _ 5 ?hg (N:=13) ?hd (xs:=([(wrap64 (Int.tdiv t235 256)) % 256,(Int.tmod t235 256) % 256]:List Int)) (inner:=[.int .u8 ((wrap64 (Int.tdiv t235 256)) % 256),.int .u8 ((Int.tmod t235 256) % 256)]) (ok:=fun _=>True) (okp:=fun _=>True) ?hr ?hp (fun _ hk=>hk) trivial (Below.refl _ _) (Nat.le_refl _) (by simp) ?_;(case hd=>rfl);(case hg=>rfl);(case hr=>first|(go_simp;done)|(go_simp;simp only [IntKind.wrap_u8];done)|(go_simp;rfl));(case hp=>exact (Reps.one (show Kd.M (Kd.int .u8) _ _ _ ((wrap64 (Int.tdiv t235 256)) % 256) [.int .u8 ((wrap64 (Int.tdiv t235 256)) % 256)] from rfl) (Reps.one (show Kd.M (Kd.int .u8) _ _ _ ((Int.tmod t235 256) % 256) [.int .u8 ((Int.tmod t235 256) % 256)] from rfl) (Reps.none _ _))));intro v237 w4 ho5 hb hg_ hnew_;clear hg_ hnew_;(first|rw [← Ny236.out] at ho5|(simp only [Int.reduceToNat] at ho5;rw [← Ny236.out] at ho5));have n0_:=Aside0.mk (Kd.R_lower ho5 (below_size (by repeat (first|(with_reducible first|exact HB.out|apply below_alloc|apply pw_below_drewN|apply below_drew1)|exact HB.out))));have n1_:=Aside0.mk (below_step (by repeat (first|(with_reducible first|exact HB.out|apply below_alloc|apply pw_below_drewN|apply below_drew1)|exact HB.out)) hb);clear HB;have HO238:=n0_;have HB:=n1_;clear n0_ n1_;clear hb ho5;have hcv6:=own_string (P:=Try.prog) Try.underlying61 Try.underlying5 Try.underlying9 (Kd.own_of_R HO238.out)))
  go_ret
  exact ⟨by first|rfl|(simp [errW_none,errW_some] <;> rfl)|(simp [*,errW_none,errW_some] <;> rfl),by repeat (first|(with_reducible first|exact HB.out|apply below_alloc|apply pw_below_drewN|apply below_drew1)|exact HB.out)⟩
 ·rw [if_neg c3] at H
  exact absurd H (by simp)

/-! ### impl_sector: function 32 -/
def impl_sector.f (k:Nat) (a0:Int) (a1:Bool) (a2:ByteArray):Option (ByteArray):=if a1 = true then ((some (([(wrap64 (Int.tdiv a0 256)) % 256,(Int.tmod a0 256) % 256,(((a2.size:Int)) + 128) % 256]:List Int):List Int)).bind fun y239=>(if (strOfNums y239).size + a2.size ≤ 9223372036854775807 then ((strings_Repeat.f (⟨#[0]⟩:ByteArray) (wrap64 (13 - (((strOfNums y239) ++ a2).size:Int)))).bind fun t242=>(if ((strOfNums y239) ++ a2).size + t242.size ≤ 9223372036854775807 then ((impl_summed.f k (((strOfNums y239) ++ a2) ++ t242)).bind fun t243=>(if t243.size + 1 ≤ 9223372036854775807 then (some (t243 ++ (⟨#[1]⟩:ByteArray))) else (none))) else (none))) else (none))) else ((some (([(wrap64 (Int.tdiv a0 256)) % 256,(Int.tmod a0 256) % 256,((a2.size:Int)) % 256]:List Int):List Int)).bind fun y244=>(if (strOfNums y244).size + a2.size ≤ 9223372036854775807 then ((strings_Repeat.f (⟨#[0]⟩:ByteArray) (wrap64 (13 - (((strOfNums y244) ++ a2).size:Int)))).bind fun t247=>(if ((strOfNums y244) ++ a2).size + t247.size ≤ 9223372036854775807 then ((impl_summed.f k (((strOfNums y244) ++ a2) ++ t247)).bind fun t248=>(if t248.size + 1 ≤ 9223372036854775807 then (some (t248 ++ (⟨#[1]⟩:ByteArray))) else (none))) else (none))) else (none)))
theorem impl_sector.mono:∀ a0 a1 a2 k,LeO (impl_sector.f k a0 a1 a2) (impl_sector.f (k + 1) a0 a1 a2):=by
 intro a0 a1 a2 k
 unfold impl_sector.f
 repeat' first
   | (with_reducible exact impl_summed.mono _ _)
   | (with_reducible exact LeO.refl _)
   | (with_reducible exact LeO.none _)
   | (with_reducible refine LeO.ite ?_ ?_)
   | (with_reducible refine LeO.bind ?_ (fun _=>?_))
   | exact impl_summed.mono _ _
   | exact LeO.none _
   | refine LeO.ite ?_ ?_
   | refine LeO.bind ?_ (fun _=>?_)
set_option maxHeartbeats 8000000 in
set_option maxRecDepth 100000 in
theorem impl_sector.calls (k:Nat) (a0:Int) (a1:Bool) (a2:ByteArray) (r:ByteArray) (w:World) (h:impl_sector.f k a0 a1 a2 = some r) :
  Calls Try.prog 32 #[.int .i64 a0,.bool a1,.string a2] w fun e w'=>e = .returned (.string r) ∧ Below w.heap.size w w':=by
 have HB:=Aside0.mk (Below.refl w.heap.size w)
 have H:(if a1 = true then ((some (([(wrap64 (Int.tdiv a0 256)) % 256,(Int.tmod a0 256) % 256,(((a2.size:Int)) + 128) % 256]:List Int):List Int)).bind fun y239=>(if (strOfNums y239).size + a2.size ≤ 9223372036854775807 then ((strings_Repeat.f (⟨#[0]⟩:ByteArray) (wrap64 (13 - (((strOfNums y239) ++ a2).size:Int)))).bind fun t242=>(if ((strOfNums y239) ++ a2).size + t242.size ≤ 9223372036854775807 then ((impl_summed.f k (((strOfNums y239) ++ a2) ++ t242)).bind fun t243=>(if t243.size + 1 ≤ 9223372036854775807 then (some (t243 ++ (⟨#[1]⟩:ByteArray))) else (none))) else (none))) else (none))) else ((some (([(wrap64 (Int.tdiv a0 256)) % 256,(Int.tmod a0 256) % 256,((a2.size:Int)) % 256]:List Int):List Int)).bind fun y244=>(if (strOfNums y244).size + a2.size ≤ 9223372036854775807 then ((strings_Repeat.f (⟨#[0]⟩:ByteArray) (wrap64 (13 - (((strOfNums y244) ++ a2).size:Int)))).bind fun t247=>(if ((strOfNums y244) ++ a2).size + t247.size ≤ 9223372036854775807 then ((impl_summed.f k (((strOfNums y244) ++ a2) ++ t247)).bind fun t248=>(if t248.size + 1 ≤ 9223372036854775807 then (some (t248 ++ (⟨#[1]⟩:ByteArray))) else (none))) else (none))) else (none)))) = some r:=h
 clear h
 by_cases c4:a1 = true
 ·subst c4
  have H1:((some (([(wrap64 (Int.tdiv a0 256)) % 256,(Int.tmod a0 256) % 256,(((a2.size:Int)) + 128) % 256]:List Int):List Int)).bind fun y239=>(if (strOfNums y239).size + a2.size ≤ 9223372036854775807 then ((strings_Repeat.f (⟨#[0]⟩:ByteArray) (wrap64 (13 - (((strOfNums y239) ++ a2).size:Int)))).bind fun t242=>(if ((strOfNums y239) ++ a2).size + t242.size ≤ 9223372036854775807 then ((impl_summed.f k (((strOfNums y239) ++ a2) ++ t242)).bind fun t243=>(if t243.size + 1 ≤ 9223372036854775807 then (some (t243 ++ (⟨#[1]⟩:ByteArray))) else (none))) else (none))) else (none))) = some r:=by rw [if_pos rfl] at H;exact H
  clear H
  have H:=H1
  clear H1
  obtain ⟨y239,hy239⟩:∃ y_:List Int,y_ = (([(wrap64 (Int.tdiv a0 256)) % 256,(Int.tmod a0 256) % 256,(((a2.size:Int)) + 128) % 256]:List Int)):=⟨_,rfl⟩
  replace H:(if (strOfNums y239).size + a2.size ≤ 9223372036854775807 then ((strings_Repeat.f (⟨#[0]⟩:ByteArray) (wrap64 (13 - (((strOfNums y239) ++ a2).size:Int)))).bind fun t242=>(if ((strOfNums y239) ++ a2).size + t242.size ≤ 9223372036854775807 then ((impl_summed.f k (((strOfNums y239) ++ a2) ++ t242)).bind fun t243=>(if t243.size + 1 ≤ 9223372036854775807 then (some (t243 ++ (⟨#[1]⟩:ByteArray))) else (none))) else (none))) else (none)) = some r:=by first|(rw [hy239];with_reducible exact H)|(have H2_:=(Option.bind_some _ _).symm.trans H;rw [hy239];with_reducible exact H2_)|(have H2_:=(Option.bind_some _ _).symm.trans H;with_reducible exact H2_)|with_reducible exact H|(rw [hy239];exact H)|exact H
  have Ny239:=Aside0.mk hy239
  clear hy239
  by_cases c5:(strOfNums y239).size + a2.size ≤ 9223372036854775807
  ·rw [if_pos c5] at H
   have c5b0:=eq_true c5
   have c5b1:decide ((strOfNums y239).size + a2.size ≤ 9223372036854775807) = true:=decide_eq_true c5
   try have c5b2:(9223372036854775807 < (strOfNums y239).size + a2.size) = False:=eq_false (Nat.not_lt.2 c5)
   replace H:=Option.bind_eq_some_iff.mp H
   obtain ⟨t242,A60,H⟩:=H
   replace H:(if ((strOfNums y239) ++ a2).size + t242.size ≤ 9223372036854775807 then ((impl_summed.f k (((strOfNums y239) ++ a2) ++ t242)).bind fun t243=>(if t243.size + 1 ≤ 9223372036854775807 then (some (t243 ++ (⟨#[1]⟩:ByteArray))) else (none))) else (none)) = some r:=H
   have A6:=Aside0.mk A60
   clear A60
   by_cases c7:((strOfNums y239) ++ a2).size + t242.size ≤ 9223372036854775807
   ·rw [if_pos c7] at H
    have c7b0:=eq_true c7
    have c7b1:decide (((strOfNums y239) ++ a2).size + t242.size ≤ 9223372036854775807) = true:=decide_eq_true c7
    try have c7b2:(9223372036854775807 < ((strOfNums y239) ++ a2).size + t242.size) = False:=eq_false (Nat.not_lt.2 c7)
    try (have c7b3:=c7b2;simp only [ByteArray.size_append] at c7b3)
    replace H:=Option.bind_eq_some_iff.mp H
    obtain ⟨t243,A80,H⟩:=H
    replace H:(if t243.size + 1 ≤ 9223372036854775807 then (some (t243 ++ (⟨#[1]⟩:ByteArray))) else (none)) = some r:=H
    have A8:=Aside0.mk A80
    clear A80
    by_cases c9:t243.size + 1 ≤ 9223372036854775807
    ·rw [if_pos c9] at H
     have c9b0:=eq_true c9
     have c9b1:decide (t243.size + 1 ≤ 9223372036854775807) = true:=decide_eq_true c9
     try have c9b2:(9223372036854775807 < t243.size + 1) = False:=eq_false (Nat.not_lt.2 c9)
     obtain rfl:=Option.some.inj H
     go_enter Try.func32,Try.ntmps32
     go_wp2_with (first|((with_reducible refine gate_dst (N:=22) rfl ?_);refine Kd.R_lit (Kd.int .u8) _ 5 ?hg (N:=22) ?hd (xs:=([(wrap64 (Int.tdiv a0 256)) % 256,(Int.tmod a0 256) % 256,(((a2.size:Int)) + 128) % 256]:List Int)) (inner:=[.int .u8 ((wrap64 (Int.tdiv a0 256)) % 256),.int .u8 ((Int.tmod a0 256) % 256),.int .u8 ((((a2.size:Int)) + 128) % 256)]) (ok:=fun _=>True) (okp:=fun _=>True) ?hr ?hp (fun _ hk=>hk) trivial (Below.refl _ _) (Nat.le_refl _) (by simp) ?_;(case hd=>rfl);(case hg=>rfl);(case hr=>first|(go_simp;done)|(go_simp;simp only [IntKind.wrap_u8];done)|(go_simp;rfl));(case hp=>exact (Reps.one (show Kd.M (Kd.int .u8) _ _ _ ((wrap64 (Int.tdiv a0 256)) % 256) [.int .u8 ((wrap64 (Int.tdiv a0 256)) % 256)] from rfl) (Reps.one (show Kd.M (Kd.int .u8) _ _ _ ((Int.tmod a0 256) % 256) [.int .u8 ((Int.tmod a0 256) % 256)] from rfl) (Reps.one (show Kd.M (Kd.int .u8) _ _ _ ((((a2.size:Int)) + 128) % 256) [.int .u8 ((((a2.size:Int)) + 128) % 256)] from rfl) (Reps.none _ _)))));intro v240 w10 ho11 hb hg_ hnew_;clear hg_ hnew_;(first|rw [← Ny239.out] at ho11|(simp only [Int.reduceToNat] at ho11;rw [← Ny239.out] at ho11));have n0_:=Aside0.mk (Kd.R_lower ho11 (below_size (by repeat (first|(with_reducible first|exact HB.out|apply below_alloc|apply pw_below_drewN|apply below_drew1)|exact HB.out))));have n1_:=Aside0.mk (below_step (by repeat (first|(with_reducible first|exact HB.out|apply below_alloc|apply pw_below_drewN|apply below_drew1)|exact HB.out)) hb);clear HB;have HO241:=n0_;have HB:=n1_;clear n0_ n1_;clear hb ho11;have hcv12:=own_string (P:=Try.prog) Try.underlying61 Try.underlying5 Try.underlying9 (Kd.own_of_R HO241.out))|((with_reducible refine gate_callee (f:=47) rfl ?_);refine goesL_ (some 30) rfl rfl Try.func47 (by kernel_rfl) rfl #[.string (⟨#[0]⟩:ByteArray),.int .i64 (wrap64 (13 - (((strOfNums y239) ++ a2).size:Int)))] rfl (by (try simp only [List.map_toArray,List.map_cons,List.map_nil]);first|done|rfl|(simp only [List.length_drop,List.length_take];rfl)|(simp (disch:=omega) only [ByteArray.size_append,Int.natCast_add,← i64_w,IntWalk.i64_in];first|done|rfl)) ?_;(with_reducible refine (strings_Repeat.calls (⟨#[0]⟩:ByteArray) (wrap64 (13 - (((strOfNums y239) ++ a2).size:Int))) t242 _ A6.out).mono ?_);rintro e w13 ⟨rfl,hb⟩;refine ⟨_,rfl,?_⟩;have n0_:=Aside0.mk (Kd.R_below (by (with_reducible repeat (first|apply Kd.R_alloc|apply Kd.R_drewN|apply Kd.R_drew));exact HO241.out) hb);have n1_:=Aside0.mk (below_step (by repeat (first|(with_reducible first|exact HB.out|apply below_alloc|apply pw_below_drewN|apply below_drew1)|exact HB.out)) hb);clear HO241;clear HB;have HO241:=n0_;have HB:=n1_;clear n0_ n1_;(try clear hb);(try clear hb2);(try clear hk);(try clear hi))|((with_reducible refine gate_callee (f:=49) rfl ?_);refine goesL_ (some 32) rfl rfl Try.func49 (by kernel_rfl) rfl #[.string (((strOfNums y239) ++ a2) ++ t242)] rfl (by (try simp only [List.map_toArray,List.map_cons,List.map_nil]);first|done|rfl|(simp only [List.length_drop,List.length_take];rfl)) ?_;(with_reducible refine (impl_summed.calls k (((strOfNums y239) ++ a2) ++ t242) t243 _ A8.out).mono ?_);rintro e w14 ⟨rfl,hb⟩;refine ⟨_,rfl,?_⟩;have n0_:=Aside0.mk (Kd.R_below (by (with_reducible repeat (first|apply Kd.R_alloc|apply Kd.R_drewN|apply Kd.R_drew));exact HO241.out) hb);have n1_:=Aside0.mk (below_step (by repeat (first|(with_reducible first|exact HB.out|apply below_alloc|apply pw_below_drewN|apply below_drew1)|exact HB.out)) hb);clear HO241;clear HB;have HO241:=n0_;have HB:=n1_;clear n0_ n1_;(try clear hb);(try clear hb2);(try clear hk);(try clear hi)))
     go_ret
     exact ⟨by first|rfl|(simp [errW_none,errW_some] <;> rfl)|(simp [*,errW_none,errW_some] <;> rfl),by repeat (first|(with_reducible first|exact HB.out|apply below_alloc|apply pw_below_drewN|apply below_drew1)|exact HB.out)⟩
    ·rw [if_neg c9] at H
     exact absurd H (by simp)
   ·rw [if_neg c7] at H
    exact absurd H (by simp)
  ·rw [if_neg c5] at H
   exact absurd H (by simp)
 ·replace c4:=Bool.eq_false_iff.mpr c4
  subst c4
  have H1:((some (([(wrap64 (Int.tdiv a0 256)) % 256,(Int.tmod a0 256) % 256,((a2.size:Int)) % 256]:List Int):List Int)).bind fun y244=>(if (strOfNums y244).size + a2.size ≤ 9223372036854775807 then ((strings_Repeat.f (⟨#[0]⟩:ByteArray) (wrap64 (13 - (((strOfNums y244) ++ a2).size:Int)))).bind fun t247=>(if ((strOfNums y244) ++ a2).size + t247.size ≤ 9223372036854775807 then ((impl_summed.f k (((strOfNums y244) ++ a2) ++ t247)).bind fun t248=>(if t248.size + 1 ≤ 9223372036854775807 then (some (t248 ++ (⟨#[1]⟩:ByteArray))) else (none))) else (none))) else (none))) = some r:=by rw [if_neg (show ¬ (false = true) by decide)] at H;exact H
  clear H
  have H:=H1
  clear H1
  obtain ⟨y244,hy244⟩:∃ y_:List Int,y_ = (([(wrap64 (Int.tdiv a0 256)) % 256,(Int.tmod a0 256) % 256,((a2.size:Int)) % 256]:List Int)):=⟨_,rfl⟩
  replace H:(if (strOfNums y244).size + a2.size ≤ 9223372036854775807 then ((strings_Repeat.f (⟨#[0]⟩:ByteArray) (wrap64 (13 - (((strOfNums y244) ++ a2).size:Int)))).bind fun t247=>(if ((strOfNums y244) ++ a2).size + t247.size ≤ 9223372036854775807 then ((impl_summed.f k (((strOfNums y244) ++ a2) ++ t247)).bind fun t248=>(if t248.size + 1 ≤ 9223372036854775807 then (some (t248 ++ (⟨#[1]⟩:ByteArray))) else (none))) else (none))) else (none)) = some r:=by first|(rw [hy244];with_reducible exact H)|(have H2_:=(Option.bind_some _ _).symm.trans H;rw [hy244];with_reducible exact H2_)|(have H2_:=(Option.bind_some _ _).symm.trans H;with_reducible exact H2_)|with_reducible exact H|(rw [hy244];exact H)|exact H
  have Ny244:=Aside0.mk hy244
  clear hy244
  by_cases c15:(strOfNums y244).size + a2.size ≤ 9223372036854775807
  ·rw [if_pos c15] at H
   have c15b0:=eq_true c15
   have c15b1:decide ((strOfNums y244).size + a2.size ≤ 9223372036854775807) = true:=decide_eq_true c15
   try have c15b2:(9223372036854775807 < (strOfNums y244).size + a2.size) = False:=eq_false (Nat.not_lt.2 c15)
   replace H:=Option.bind_eq_some_iff.mp H
   obtain ⟨t247,A160,H⟩:=H
   replace H:(if ((strOfNums y244) ++ a2).size + t247.size ≤ 9223372036854775807 then ((impl_summed.f k (((strOfNums y244) ++ a2) ++ t247)).bind fun t248=>(if t248.size + 1 ≤ 9223372036854775807 then (some (t248 ++ (⟨#[1]⟩:ByteArray))) else (none))) else (none)) = some r:=H
   have A16:=Aside0.mk A160
   clear A160
   by_cases c17:((strOfNums y244) ++ a2).size + t247.size ≤ 9223372036854775807
   ·rw [if_pos c17] at H
    have c17b0:=eq_true c17
    have c17b1:decide (((strOfNums y244) ++ a2).size + t247.size ≤ 9223372036854775807) = true:=decide_eq_true c17
    try have c17b2:(9223372036854775807 < ((strOfNums y244) ++ a2).size + t247.size) = False:=eq_false (Nat.not_lt.2 c17)
    try (have c17b3:=c17b2;simp only [ByteArray.size_append] at c17b3)
    replace H:=Option.bind_eq_some_iff.mp H
    obtain ⟨t248,A180,H⟩:=H
    replace H:(if t248.size + 1 ≤ 9223372036854775807 then (some (t248 ++ (⟨#[1]⟩:ByteArray))) else (none)) = some r:=H
    have A18:=Aside0.mk A180
    clear A180
    by_cases c19:t248.size + 1 ≤ 9223372036854775807
    ·rw [if_pos c19] at H
     have c19b0:=eq_true c19
     have c19b1:decide (t248.size + 1 ≤ 9223372036854775807) = true:=decide_eq_true c19
     try have c19b2:(9223372036854775807 < t248.size + 1) = False:=eq_false (Nat.not_lt.2 c19)
     obtain rfl:=Option.some.inj H
     go_enter Try.func32,Try.ntmps32
     go_wp2_with (first|((with_reducible refine gate_dst (N:=22) rfl ?_);refine Kd.R_lit (Kd.int .u8) _ 5 ?hg (N:=22) ?hd (xs:=([(wrap64 (Int.tdiv a0 256)) % 256,(Int.tmod a0 256) % 256,((a2.size:Int)) % 256]:List Int)) (inner:=[.int .u8 ((wrap64 (Int.tdiv a0 256)) % 256),.int .u8 ((Int.tmod a0 256) % 256),.int .u8 (((a2.size:Int)) % 256)]) (ok:=fun _=>True) (okp:=fun _=>True) ?hr ?hp (fun _ hk=>hk) trivial (Below.refl _ _) (Nat.le_refl _) (by simp) ?_;(case hd=>rfl);(case hg=>rfl);(case hr=>first|(go_simp;done)|(go_simp;simp only [IntKind.wrap_u8];done)|(go_simp;rfl));(case hp=>exact (Reps.one (show Kd.M (Kd.int .u8) _ _ _ ((wrap64 (Int.tdiv a0 256)) % 256) [.int .u8 ((wrap64 (Int.tdiv a0 256)) % 256)] from rfl) (Reps.one (show Kd.M (Kd.int .u8) _ _ _ ((Int.tmod a0 256) % 256) [.int .u8 ((Int.tmod a0 256) % 256)] from rfl) (Reps.one (show Kd.M (Kd.int .u8) _ _ _ (((a2.size:Int)) % 256) [.int .u8 (((a2.size:Int)) % 256)] from rfl) (Reps.none _ _)))));intro v245 w20 ho21 hb hg_ hnew_;clear hg_ hnew_;(first|rw [← Ny244.out] at ho21|(simp only [Int.reduceToNat] at ho21;rw [← Ny244.out] at ho21));have n0_:=Aside0.mk (Kd.R_lower ho21 (below_size (by repeat (first|(with_reducible first|exact HB.out|apply below_alloc|apply pw_below_drewN|apply below_drew1)|exact HB.out))));have n1_:=Aside0.mk (below_step (by repeat (first|(with_reducible first|exact HB.out|apply below_alloc|apply pw_below_drewN|apply below_drew1)|exact HB.out)) hb);clear HB;have HO246:=n0_;have HB:=n1_;clear n0_ n1_;clear hb ho21;have hcv22:=own_string (P:=Try.prog) Try.underlying61 Try.underlying5 Try.underlying9 (Kd.own_of_R HO246.out))|((with_reducible refine gate_callee (f:=47) rfl ?_);refine goesL_ (some 30) rfl rfl Try.func47 (by kernel_rfl) rfl #[.string (⟨#[0]⟩:ByteArray),.int .i64 (wrap64 (13 - (((strOfNums y244) ++ a2).size:Int)))] rfl (by (try simp only [List.map_toArray,List.map_cons,List.map_nil]);first|done|rfl|(simp only [List.length_drop,List.length_take];rfl)|(simp (disch:=omega) only [ByteArray.size_append,Int.natCast_add,← i64_w,IntWalk.i64_in];first|done|rfl)) ?_;(with_reducible refine (strings_Repeat.calls (⟨#[0]⟩:ByteArray) (wrap64 (13 - (((strOfNums y244) ++ a2).size:Int))) t247 _ A16.out).mono ?_);rintro e w23 ⟨rfl,hb⟩;refine ⟨_,rfl,?_⟩;have n0_:=Aside0.mk (Kd.R_below (by (with_reducible repeat (first|apply Kd.R_alloc|apply Kd.R_drewN|apply Kd.R_drew));exact HO246.out) hb);have n1_:=Aside0.mk (below_step (by repeat (first|(with_reducible first|exact HB.out|apply below_alloc|apply pw_below_drewN|apply below_drew1)|exact HB.out)) hb);clear HO246;clear HB;have HO246:=n0_;have HB:=n1_;clear n0_ n1_;(try clear hb);(try clear hb2);(try clear hk);(try clear hi))|((with_reducible refine gate_callee (f:=49) rfl ?_);refine goesL_ (some 32) rfl rfl Try.func49 (by kernel_rfl) rfl #[.string (((strOfNums y244) ++ a2) ++ t247)] rfl (by (try simp only [List.map_toArray,List.map_cons,List.map_nil]);first|done|rfl|(simp only [List.length_drop,List.length_take];rfl)) ?_;(with_reducible refine (impl_summed.calls k (((strOfNums y244) ++ a2) ++ t247) t248 _ A18.out).mono ?_);rintro e w24 ⟨rfl,hb⟩;refine ⟨_,rfl,?_⟩;have n0_:=Aside0.mk (Kd.R_below (by (with_reducible repeat (first|apply Kd.R_alloc|apply Kd.R_drewN|apply Kd.R_drew));exact HO246.out) hb);have n1_:=Aside0.mk (below_step (by repeat (first|(with_reducible first|exact HB.out|apply below_alloc|apply pw_below_drewN|apply below_drew1)|exact HB.out)) hb);clear HO246;clear HB;have HO246:=n0_;have HB:=n1_;clear n0_ n1_;(try clear hb);(try clear hb2);(try clear hk);(try clear hi)))
     go_ret
     exact ⟨by first|rfl|(simp [errW_none,errW_some] <;> rfl)|(simp [*,errW_none,errW_some] <;> rfl),by repeat (first|(with_reducible first|exact HB.out|apply below_alloc|apply pw_below_drewN|apply below_drew1)|exact HB.out)⟩
    ·rw [if_neg c19] at H
     exact absurd H (by simp)
   ·rw [if_neg c17] at H
    exact absurd H (by simp)
  ·rw [if_neg c15] at H
   exact absurd H (by simp)

/-! ### impl_Disk_size: function 44 -/
def impl_Disk_size.f (l0_0:List ByteArray) (l0_1:List ByteArray):Option (Int):=some (wrap64 ((l0_0.length:Int) + (l0_1.length:Int)))
set_option maxHeartbeats 8000000 in
set_option maxRecDepth 100000 in
theorem impl_Disk_size.calls (A0_0:Option Addr) (c0_0:Nat) (l0_0:List ByteArray) (A0_1:Option Addr) (c0_1:Nat) (l0_1:List ByteArray) (r:Int) (w:World) (hr0_0:Kd.C Kd.string w A0_0 l0_0.length l0_0) (hc0_0:l0_0.length ≤ c0_0) (hr0_1:Kd.C Kd.string w A0_1 l0_1.length l0_1) (hc0_1:l0_1.length ≤ c0_1) (h:impl_Disk_size.f l0_0 l0_1 = some r) :
  Calls Try.prog 44 #[.agg #[.slice A0_0 l0_0.length c0_0,.slice A0_1 l0_1.length c0_1]] w fun e w'=>e = .returned (.int .i64 r) ∧ Below w.heap.size w w':=by
 have hu34:=Try.underlying34
 have HR0_0:=Aside0.mk hr0_0
 have HC0_0:=Aside0.mk hc0_0
 clear hr0_0 hc0_0
 have HR0_1:=Aside0.mk hr0_1
 have HC0_1:=Aside0.mk hc0_1
 clear hr0_1 hc0_1
 have HB:=Aside0.mk (Below.refl w.heap.size w)
 have H:(some (wrap64 ((l0_0.length:Int) + (l0_1.length:Int)))) = some r:=h
 clear h
 obtain rfl:=Option.some.inj H
 go_enter Try.func44,Try.ntmps44
 go_wp2_with (first|((with_reducible refine gate_dst (N:=1) rfl ?_);refine box_event ?hg (N:=1) ?hd (cs:=#[.slice A0_0 l0_0.length c0_0,.slice A0_1 l0_1.length c0_1]) (t:=34) ?hr ?_;(case hd=>rfl);(case hg=>rfl);(case hr=>first|(go_simp;done)|(go_simp;rfl));intro gb249 hg w2 hbox hb;have n0_:=Aside0.mk (below_step (by repeat (first|(with_reducible first|exact HB.out|apply below_alloc|apply pw_below_drewN|apply below_drew1)|exact HB.out)) hb);have n1_:=Aside0.mk (hbox);have n2_:=Aside0.mk ((by rw [hg];exact (below_size (by repeat (first|(with_reducible first|exact HB.out|apply below_alloc|apply pw_below_drewN|apply below_drew1)|exact HB.out))):w.heap.size ≤ gb249));have n3_:=Aside0.mk ((by rw [hg];exact (below_size (by repeat (first|(with_reducible first|exact HB.out|apply below_alloc|apply pw_below_drewN|apply below_drew1)|exact HB.out))):w.heap.size ≤ gb249));clear HB;have HB:=n0_;have BK249:=n1_;have GW249:=n2_;have GE249:=n3_;clear n0_ n1_ n2_ n3_;clear hb hbox hg;have hcz3_0:w2.cell? ⟨gb249,0,none⟩ = some (.slice A0_0 l0_0.length c0_0):=(blk_cell BK249.out 0).trans rfl;have hcz3_1:w2.cell? ⟨gb249,1,none⟩ = some (.slice A0_1 l0_1.length c0_1):=(blk_cell BK249.out 1).trans rfl;have hfz3_0:=blk_frozen BK249.out 0;have hfz3_1:=blk_frozen BK249.out 1))
 go_ret
 exact ⟨by first|rfl|(simp [errW_none,errW_some] <;> rfl)|(simp [*,errW_none,errW_some] <;> rfl),by repeat (first|(with_reducible first|exact HB.out|apply below_alloc|apply pw_below_drewN|apply below_drew1|refine below_set ?_ GE249.out)|exact HB.out)⟩

end Go.Proofs.Ytamiedpgahpihaa.QFnExactPutText
