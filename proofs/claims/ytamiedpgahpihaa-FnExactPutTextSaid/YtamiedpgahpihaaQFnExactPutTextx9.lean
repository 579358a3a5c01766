-- Written by this session's own program (wip/x/xprint.py, over the kit's printer); Lean checks it.
import Derived.Test.YtamiedpgahpihaaQFnExactPutTextx0
import Derived.Test.YtamiedpgahpihaaQFnExactPutTextx6
import Derived.Test.YtamiedpgahpihaaQFnExactPutTextx7
import Derived.Test.YtamiedpgahpihaaQFnExactPutTextx8
namespace Go.Proofs.Ytamiedpgahpihaa.QFnExactPutText
open Go.RowKit Go.Proofs.YtamiedpgahpihaaW.PrintWords Go.Proofs.YtamiedpgahpihaaW.PrintLast Go.Proofs.YtamiedpgahpihaaW.PrintMore
attribute [local go_sem] max2_int min2_int max_two min_two max_three min_three max_four min_four   -- for this text's walks alone
set_option linter.unusedVariables false
set_option linter.unusedSimpArgs false

/-! ### impl_PutText: function 26 -/
mutual
def impl_PutText.j0:Nat → ByteArray → Bool → List ByteArray → List ByteArray → Option (List ByteArray × List ByteArray × Bool)
 | 0,_,_,_,_=>none
 | k + 1,x1,x18,x298000,x298001=>if x18 = true then (some (([]:List ByteArray),([]:List ByteArray),false)) else ((impl_Disk_texts.f k x298000 x298001).bind fun bt300=>((impl_Disk_size.f x298000 x298001).bind fun t304=>(if bt300.2 = t304 then ((impl_Disk_copied.f x298000 x298001).bind fun bt305=>(impl_PutText.l0 k x1 true bt305.1 bt305.2)) else (some (([]:List ByteArray),([]:List ByteArray),false)))))
def impl_PutText.l0:Nat → ByteArray → Bool → List ByteArray → List ByteArray → Option (List ByteArray × List ByteArray × Bool)
 | 0,_,_,_,_=>none
 | k + 1,x1,x9,x312000,x312001=>if x9 = true then (impl_PutText.j2 k x1 true x312000 x312001) else (impl_PutText.j2 k x1 (x1.toList != ([]:List UInt8)) x312000 x312001)
def impl_PutText.j2:Nat → ByteArray → Bool → List ByteArray → List ByteArray → Option (List ByteArray × List ByteArray × Bool)
 | 0,_,_,_,_=>none
 | k + 1,x1,x36,x312000,x312001=>if x36 = true then ((impl_Disk_size.f x312000 x312001).bind fun t312=>(if t312 = 400 then (some (([]:List ByteArray),([]:List ByteArray),false)) else ((impl_Disk_size.f x312000 x312001).bind fun t313=>(if 0 ≤ (mn (x1.size:Int) 10) then (if (mn (x1.size:Int) 10) ≤ (x1.size:Int) then ((impl_sector.f k t313 ((mn (x1.size:Int) 10) == (x1.size:Int)) (x1.extract 0 ((mn (x1.size:Int) 10):Int).toNat)).bind fun t314=>(if x312001.length < 8796093022208 then (impl_PutText.l0 k (x1.extract ((mn (x1.size:Int) 10):Int).toNat x1.size) false x312000 (x312001 ++ [t314])) else (none))) else (none)) else (none))))) else (some (x312000,x312001,true))
end
def impl_PutText.f (k:Nat) (l0_0:List ByteArray) (l0_1:List ByteArray) (a1:ByteArray):Option (List ByteArray × List ByteArray × Bool):=(impl_GoodDisk.f k l0_0 l0_1).bind fun t299=>(if t299 = true then (impl_PutText.j0 k a1 (decide ((a1.size:Int) > 1000)) l0_0 l0_1) else (impl_PutText.j0 k a1 true l0_0 l0_1))
theorem impl_PutText.mono_l:∀ k,(∀ y0 y1 y2 y3,LeO (impl_PutText.j0 k y0 y1 y2 y3) (impl_PutText.j0 (k + 1) y0 y1 y2 y3)) ∧ (∀ y0 y1 y2 y3,LeO (impl_PutText.l0 k y0 y1 y2 y3) (impl_PutText.l0 (k + 1) y0 y1 y2 y3)) ∧ (∀ y0 y1 y2 y3,LeO (impl_PutText.j2 k y0 y1 y2 y3) (impl_PutText.j2 (k + 1) y0 y1 y2 y3))
 | 0=>⟨fun _ _ _ _ r h=>by simp [impl_PutText.j0] at h,fun _ _ _ _ r h=>by simp [impl_PutText.l0] at h,fun _ _ _ _ r h=>by simp [impl_PutText.j2] at h⟩
 | k + 1=>by
  obtain ⟨ih0,ih1,ih2⟩:=impl_PutText.mono_l k
  refine ⟨?_,?_,?_⟩
  ·intro y0 y1 y2 y3
   unfold impl_PutText.j0
   repeat' first
   | (with_reducible exact ih0 _ _ _ _)
   | (with_reducible exact ih1 _ _ _ _)
   | (with_reducible exact ih2 _ _ _ _)
   | (with_reducible exact impl_Disk_texts.mono _ _ _)
   | (with_reducible exact impl_GoodDisk.mono _ _ _)
   | (with_reducible exact impl_sector.mono _ _ _ _)
   | (with_reducible exact LeO.refl _)
   | (with_reducible exact LeO.none _)
   | (with_reducible refine LeO.ite ?_ ?_)
   | (with_reducible refine LeO.bind ?_ (fun _=>?_))
   | exact ih0 _ _ _ _
   | exact ih1 _ _ _ _
   | exact ih2 _ _ _ _
   | exact impl_Disk_texts.mono _ _ _
   | exact impl_GoodDisk.mono _ _ _
   | exact impl_sector.mono _ _ _ _
   | exact LeO.none _
   | refine LeO.ite ?_ ?_
   | refine LeO.bind ?_ (fun _=>?_)
  ·intro y0 y1 y2 y3
   unfold impl_PutText.l0
   repeat' first
   | (with_reducible exact ih0 _ _ _ _)
   | (with_reducible exact ih1 _ _ _ _)
   | (with_reducible exact ih2 _ _ _ _)
   | (with_reducible exact impl_Disk_texts.mono _ _ _)
   | (with_reducible exact impl_GoodDisk.mono _ _ _)
   | (with_reducible exact impl_sector.mono _ _ _ _)
   | (with_reducible exact LeO.refl _)
   | (with_reducible exact LeO.none _)
   | (with_reducible refine LeO.ite ?_ ?_)
   | (with_reducible refine LeO.bind ?_ (fun _=>?_))
   | exact ih0 _ _ _ _
   | exact ih1 _ _ _ _
   | exact ih2 _ _ _ _
   | exact impl_Disk_texts.mono _ _ _
   | exact impl_GoodDisk.mono _ _ _
   | exact impl_sector.mono _ _ _ _
   | exact LeO.none _
   | refine LeO.ite ?_ ?_
   | refine LeO.bind ?_ (fun _=>?_)
  ·intro y0 y1 y2 y3
   unfold impl_PutText.j2
   repeat' first
   | (with_reducible exact ih0 _ _ _ _)
   | (with_reducible exact ih1 _ _ _ _)
   | (with_reducible exact ih2 _ _ _ _)
   | (with_reducible exact impl_Disk_texts.mono _ _ _)
   | (with_reducible exact impl_GoodDisk.mono _ _ _)
   | (with_reducible exact impl_sector.mono _ _ _ _)
   | (with_reducible exact LeO.refl _)
   | (with_reducible exact LeO.none _)
   | (with_reducible refine LeO.ite ?_ ?_)
   | (with_reducible refine LeO.bind ?_ (fun _=>?_))
   | exact ih0 _ _ _ _
   | exact ih1 _ _ _ _
   | exact ih2 _ _ _ _
   | exact impl_Disk_texts.mono _ _ _
   | exact impl_GoodDisk.mono _ _ _
   | exact impl_sector.mono _ _ _ _
   | exact LeO.none _
   | refine LeO.ite ?_ ?_
   | refine LeO.bind ?_ (fun _=>?_)
theorem impl_PutText.mono:∀ a0 a1 a2 k,LeO (impl_PutText.f k a0 a1 a2) (impl_PutText.f (k + 1) a0 a1 a2):=by
 intro a0 a1 a2 k
 obtain ⟨ih0,ih1,ih2⟩:=impl_PutText.mono_l k
 unfold impl_PutText.f
 repeat' first
   | (with_reducible exact ih0 _ _ _ _)
   | (with_reducible exact ih1 _ _ _ _)
   | (with_reducible exact ih2 _ _ _ _)
   | (with_reducible exact impl_Disk_texts.mono _ _ _)
   | (with_reducible exact impl_GoodDisk.mono _ _ _)
   | (with_reducible exact impl_sector.mono _ _ _ _)
   | (with_reducible exact LeO.refl _)
   | (with_reducible exact LeO.none _)
   | (with_reducible refine LeO.ite ?_ ?_)
   | (with_reducible refine LeO.bind ?_ (fun _=>?_))
   | exact ih0 _ _ _ _
   | exact ih1 _ _ _ _
   | exact ih2 _ _ _ _
   | exact impl_Disk_texts.mono _ _ _
   | exact impl_GoodDisk.mono _ _ _
   | exact impl_sector.mono _ _ _ _
   | exact LeO.none _
   | refine LeO.ite ?_ ?_
   | refine LeO.bind ?_ (fun _=>?_)
def impl_PutText.T13:Bool × List (List Nat × List Nat):=(true,[([],[]),([0],[0]),([],[]),([2],[2]),([],[]),([],[]),([5],[5]),([4,6],[4,6]),([],[]),([],[]),([8,9],[8,9]),([3,7,10,3],[3,7,10]),([11],[11]),([1,12,11],[1,12]),([0,1,2,3,4,5,6,7,8,9,10,11,12,13],[]),([14,13,13,0,1,2,3,4,5,6,7,8,9,10,11,12,13],[13,14])])
def impl_PutText.B13:List Nat:=[0,1,0,4,0,0,32,112,0,0,768,2044,4092,8191,16383,32767]
theorem impl_PutText.tab13:rtab .any (opsOf Try.f26 13) = impl_PutText.T13:=by kernel_rfl
theorem impl_PutText.bits13:waitsOk impl_PutText.T13.2 impl_PutText.B13 = true:=by kernel_rfl
set_option maxHeartbeats 8000000 in
set_option maxRecDepth 100000 in
theorem impl_PutText.calls (k:Nat) (A0_0:Option Addr) (c0_0:Nat) (l0_0:List ByteArray) (A0_1:Option Addr) (c0_1:Nat) (l0_1:List ByteArray) (a1:ByteArray) (r1:List ByteArray) (r2:List ByteArray) (r3:Bool) (w:World) (hr0_0:Kd.C Kd.string w A0_0 l0_0.length l0_0) (hc0_0:l0_0.length ≤ c0_0) (hr0_1:Kd.C Kd.string w A0_1 l0_1.length l0_1) (hc0_1:l0_1.length ≤ c0_1) (h:impl_PutText.f k l0_0 l0_1 a1 = some (r1,r2,r3)) :
  Calls Try.prog 26 #[.agg #[.slice A0_0 l0_0.length c0_0,.slice A0_1 l0_1.length c0_1],.string a1] w fun e w'=>∃ v0_ v1_:Value,e = .returned (.tuple #[.agg #[v0_,v1_],.bool r3]) ∧ Kd.R Kd.string 9 w' w.heap.size (fun k_=>some k_ ≠ (v1_:Value).ownBlock) v0_ r1 ∧ Kd.R Kd.string 9 w' w.heap.size (fun k_=>some k_ ≠ (v0_:Value).ownBlock) v1_ r2 ∧ Below w.heap.size w w':=by
 have hu34:=Try.underlying34
 have HR0_0:=Aside0.mk hr0_0
 have HC0_0:=Aside0.mk hc0_0
 clear hr0_0 hc0_0
 have HR0_1:=Aside0.mk hr0_1
 have HC0_1:=Aside0.mk hc0_1
 clear hr0_1 hc0_1
 have HB:=Aside0.mk (Below.refl w.heap.size w)
 have H:((impl_GoodDisk.f k l0_0 l0_1).bind fun t299=>(if t299 = true then (impl_PutText.j0 k a1 (decide ((a1.size:Int) > 1000)) l0_0 l0_1) else (impl_PutText.j0 k a1 true l0_0 l0_1))) = some (r1,r2,r3):=h
 clear h
 have HC3:=Aside0.mk H
 clear H
 go_enter Try.func26,Try.ntmps26
 go_upto_region 1 with (first|((with_reducible refine gate_dst (N:=2) rfl ?_);(try (refine gate_guard (by rfl) ?_;dsimp only));refine box_event ?hg (N:=2) ?hd (cs:=#[.slice A0_0 l0_0.length c0_0,.slice A0_1 l0_1.length c0_1]) (t:=34) ?hr ?_;(case hd=>rfl);(case hg=>rfl);(case hr=>first|(go_simp;done)|(go_simp;rfl));intro gb297 hg w4 hbox hb;have n0_:=Aside0.mk (below_step (by repeat (first|(with_reducible first|exact HB.out|apply below_alloc|apply pw_below_drewN|apply below_drew1)|exact HB.out)) hb);have n1_:=Aside0.mk (hbox);have n2_:=Aside0.mk ((by rw [hg];exact (below_size (by repeat (first|(with_reducible first|exact HB.out|apply below_alloc|apply pw_below_drewN|apply below_drew1)|exact HB.out))):w.heap.size ≤ gb297));have n3_:=Aside0.mk ((by rw [hg];exact (below_size (by repeat (first|(with_reducible first|exact HB.out|apply below_alloc|apply pw_below_drewN|apply below_drew1)|exact HB.out))):w.heap.size ≤ gb297));clear HB;have HB:=n0_;have BK297:=n1_;have GW297:=n2_;have GE297:=n3_;clear n0_ n1_ n2_ n3_;clear hb hbox hg)|((with_reducible refine gate_dst (N:=4) rfl ?_);(try (refine gate_guard (by rfl) ?_;dsimp only));refine box_event ?hg (N:=4) ?hd (cs:=#[.slice none 0 0,.slice none 0 0]) (t:=34) ?hr ?_;(case hd=>rfl);(case hg=>rfl);(case hr=>first|(go_simp;done)|(go_simp;rfl));intro gb298 hg w5 hbox hb;have n0_:=Aside0.mk (blk_below (g:=gb297) (o:=.cells #[.slice A0_0 l0_0.length c0_0,.slice A0_1 l0_1.length c0_1] 34 (0,0)) (by (with_reducible repeat (first|refine blk_drewN ?_ _|refine blk_drew ?_|refine blk_alloc ?_ _));exact BK297.out) hb);have n1_:=Aside0.mk (below_step (by repeat (first|(with_reducible first|exact HB.out|apply below_alloc|apply pw_below_drewN|apply below_drew1|refine below_set ?_ GE297.out)|exact HB.out)) hb);have n2_:=Aside0.mk (hbox);have n3_:=Aside0.mk ((by rw [hg];exact (below_size (by repeat (first|(with_reducible first|exact HB.out|apply below_alloc|apply pw_below_drewN|apply below_drew1|refine below_set ?_ GE297.out)|exact HB.out))):w.heap.size ≤ gb298));have n4_:=Aside0.mk ((by rw [hg];exact (below_size (by repeat (first|(with_reducible first|exact HB.out|apply below_alloc|apply pw_below_drewN|apply below_drew1|refine below_set ?_ GE297.out)|exact HB.out))):w.heap.size ≤ gb298));have n5_:=Aside0.mk ((by rw [hg];exact Nat.ne_of_lt (blk_lt (g:=gb297) (o:=.cells #[.slice A0_0 l0_0.length c0_0,.slice A0_1 l0_1.length c0_1] 34 (0,0)) (by (with_reducible repeat (first|refine blk_drewN ?_ _|refine blk_drew ?_|refine blk_alloc ?_ _));exact BK297.out)):gb297 ≠ gb298));have n6_:=Aside0.mk ((by rw [hg];exact Nat.ne_of_gt (blk_lt (g:=gb297) (o:=.cells #[.slice A0_0 l0_0.length c0_0,.slice A0_1 l0_1.length c0_1] 34 (0,0)) (by (with_reducible repeat (first|refine blk_drewN ?_ _|refine blk_drew ?_|refine blk_alloc ?_ _));exact BK297.out)):gb298 ≠ gb297));clear BK297;clear HB;have BK297:=n0_;have HB:=n1_;have BK298:=n2_;have GW298:=n3_;have GE298:=n4_;have NB297_298:=n5_;have NB298_297:=n6_;clear n0_ n1_ n2_ n3_ n4_ n5_ n6_;clear hb hbox hg))
 (try simp only [Act.put,List.setIfInBounds_toArray,List.set_cons_zero,List.set_cons_succ])
 go_cut [18] (fun v18 wc=>∃ (kq:Nat) (x18_2:Bool),v18 = .bool x18_2 ∧ Aside0 (impl_PutText.j0 kq a1 x18_2 l0_0 l0_1 = some (r1,r2,r3)) ∧ Aside0 (kq ≤ k) ∧ Aside0 (wc.heap[gb297]? = some (.cells #[(.slice A0_0 l0_0.length c0_0),(.slice A0_1 l0_1.length c0_1)] 34 (0,0))) ∧ Aside0 (wc.heap[gb298]? = some (.cells #[(.slice none 0 0),(.slice none 0 0)] 34 (0,0))) ∧ Aside0 (Below w.heap.size w wc))
 case first =>
  have H:=HC3.out
  clear HC3
  replace H:=Option.bind_eq_some_iff.mp H
  obtain ⟨t299,A60,H⟩:=H
  replace H:(if t299 = true then (impl_PutText.j0 k a1 (decide ((a1.size:Int) > 1000)) l0_0 l0_1) else (impl_PutText.j0 k a1 true l0_0 l0_1)) = some (r1,r2,r3):=H
  have A6:=Aside0.mk A60
  clear A60
  by_cases c7:t299 = true
  ·subst c7
   have H1:(impl_PutText.j0 k a1 (decide ((a1.size:Int) > 1000)) l0_0 l0_1) = some (r1,r2,r3):=by rw [if_pos rfl] at H;exact H
   clear H
   have H:=H1
   clear H1
   have H':=Aside0.mk H
   clear H
   have hnb8:=NB297_298.out
   have hnc8:=NB298_297.out
   have hcz9_0:w5.cell? ⟨gb297,0,none⟩ = some (.slice A0_0 l0_0.length c0_0):=(blk_cell BK297.out 0).trans rfl
   have hcz9_1:w5.cell? ⟨gb297,1,none⟩ = some (.slice A0_1 l0_1.length c0_1):=(blk_cell BK297.out 1).trans rfl
   have hfz9_0:=blk_frozen BK297.out 0
   have hfz9_1:=blk_frozen BK297.out 1
   go_wp2_with (first|((with_reducible refine gate_callee (f:=38) rfl ?_);refine goesL_ (some 12) rfl rfl Try.func38 (by kernel_rfl) rfl #[.agg #[.slice A0_0 l0_0.length c0_0,.slice A0_1 l0_1.length c0_1]] rfl (by (try simp only [List.map_toArray,List.map_cons,List.map_nil]);first|done|rfl|(simp only [List.length_drop,List.length_take];rfl)) ?_;(with_reducible refine (impl_GoodDisk.calls k (fun k_=>k_ < w.heap.size) _ _ l0_0 (fun k_=>k_ < w.heap.size) _ _ l0_1 true _ ?side1 ?side2 A6.out).mono ?_);(case side1=>exact Kd.V_mk HC0_0.out (Kd.F_below (Kd.C_F Kd.heap_string HR0_0.out) (by repeat (first|(with_reducible first|exact HB.out|apply below_alloc|apply pw_below_drewN|apply below_drew1|refine below_set ?_ GE297.out|refine below_set ?_ GE298.out)|exact HB.out))));(case side2=>exact Kd.V_mk HC0_1.out (Kd.F_below (Kd.C_F Kd.heap_string HR0_1.out) (by repeat (first|(with_reducible first|exact HB.out|apply below_alloc|apply pw_below_drewN|apply below_drew1|refine below_set ?_ GE297.out|refine below_set ?_ GE298.out)|exact HB.out))));rintro e w10 ⟨rfl,hb⟩;refine ⟨_,rfl,?_⟩;have n0_:=Aside0.mk (blk_below (g:=gb297) (o:=.cells #[.slice A0_0 l0_0.length c0_0,.slice A0_1 l0_1.length c0_1] 34 (0,0)) (by (with_reducible repeat (first|refine blk_drewN ?_ _|refine blk_drew ?_|refine blk_alloc ?_ _));exact BK297.out) hb);have n1_:=Aside0.mk (blk_below (g:=gb298) (o:=.cells #[.slice none 0 0,.slice none 0 0] 34 (0,0)) (by (with_reducible repeat (first|refine blk_drewN ?_ _|refine blk_drew ?_|refine blk_alloc ?_ _));exact BK298.out) hb);have n2_:=Aside0.mk (below_step (by repeat (first|(with_reducible first|exact HB.out|apply below_alloc|apply pw_below_drewN|apply below_drew1|refine below_set ?_ GE297.out|refine below_set ?_ GE298.out)|exact HB.out)) hb);clear BK297;clear BK298;clear HB;have BK297:=n0_;have BK298:=n1_;have HB:=n2_;clear n0_ n1_ n2_;(try clear hb);(try clear hb2);(try clear hk);(try clear hi)))
   go_meet
   case rel=>exact ⟨_,(decide ((a1.size:Int) > 1000)),(by first|rfl|(simp;done)|(simp [*];done)),H',⟨by first|omega|exact Nat.le_refl _⟩,⟨by (with_reducible repeat (first|refine blk_drewN ?_ _|refine blk_drew ?_|refine blk_alloc ?_ _));exact BK297.out⟩,⟨by (with_reducible repeat (first|refine blk_drewN ?_ _|refine blk_drew ?_|refine blk_alloc ?_ _));exact BK298.out⟩,⟨by repeat (first|(with_reducible first|exact HB.out|apply below_alloc|apply pw_below_drewN|apply below_drew1|refine below_set ?_ GE297.out|refine below_set ?_ GE298.out)|exact HB.out)⟩⟩
  ·replace c7:=Bool.eq_false_iff.mpr c7
   subst c7
   have H1:(impl_PutText.j0 k a1 true l0_0 l0_1) = some (r1,r2,r3):=by rw [if_neg (show ¬ (false = true) by decide)] at H;exact H
   clear H
   have H:=H1
   clear H1
   have H':=Aside0.mk H
   clear H
   have hnb11:=NB297_298.out
   have hnc11:=NB298_297.out
   have hcz12_0:w5.cell? ⟨gb297,0,none⟩ = some (.slice A0_0 l0_0.length c0_0):=(blk_cell BK297.out 0).trans rfl
   have hcz12_1:w5.cell? ⟨gb297,1,none⟩ = some (.slice A0_1 l0_1.length c0_1):=(blk_cell BK297.out 1).trans rfl
   have hfz12_0:=blk_frozen BK297.out 0
   have hfz12_1:=blk_frozen BK297.out 1
   go_wp2_with (first|((with_reducible refine gate_callee (f:=38) rfl ?_);refine goesL_ (some 12) rfl rfl Try.func38 (by kernel_rfl) rfl #[.agg #[.slice A0_0 l0_0.length c0_0,.slice A0_1 l0_1.length c0_1]] rfl (by (try simp only [List.map_toArray,List.map_cons,List.map_nil]);first|done|rfl|(simp only [List.length_drop,List.length_take];rfl)) ?_;(with_reducible refine (impl_GoodDisk.calls k (fun k_=>k_ < w.heap.size) _ _ l0_0 (fun k_=>k_ < w.heap.size) _ _ l0_1 false _ ?side1 ?side2 A6.out).mono ?_);(case side1=>exact Kd.V_mk HC0_0.out (Kd.F_below (Kd.C_F Kd.heap_string HR0_0.out) (by repeat (first|(with_reducible first|exact HB.out|apply below_alloc|apply pw_below_drewN|apply below_drew1|refine below_set ?_ GE297.out|refine below_set ?_ GE298.out)|exact HB.out))));(case side2=>exact Kd.V_mk HC0_1.out (Kd.F_below (Kd.C_F Kd.heap_string HR0_1.out) (by repeat (first|(with_reducible first|exact HB.out|apply below_alloc|apply pw_below_drewN|apply below_drew1|refine below_set ?_ GE297.out|refine below_set ?_ GE298.out)|exact HB.out))));rintro e w13 ⟨rfl,hb⟩;refine ⟨_,rfl,?_⟩;have n0_:=Aside0.mk (blk_below (g:=gb297) (o:=.cells #[.slice A0_0 l0_0.length c0_0,.slice A0_1 l0_1.length c0_1] 34 (0,0)) (by (with_reducible repeat (first|refine blk_drewN ?_ _|refine blk_drew ?_|refine blk_alloc ?_ _));exact BK297.out) hb);have n1_:=Aside0.mk (blk_below (g:=gb298) (o:=.cells #[.slice none 0 0,.slice none 0 0] 34 (0,0)) (by (with_reducible repeat (first|refine blk_drewN ?_ _|refine blk_drew ?_|refine blk_alloc ?_ _));exact BK298.out) hb);have n2_:=Aside0.mk (below_step (by repeat (first|(with_reducible first|exact HB.out|apply below_alloc|apply pw_below_drewN|apply below_drew1|refine below_set ?_ GE297.out|refine below_set ?_ GE298.out)|exact HB.out)) hb);clear BK297;clear BK298;clear HB;have BK297:=n0_;have BK298:=n1_;have HB:=n2_;clear n0_ n1_ n2_;(try clear hb);(try clear hb2);(try clear hk);(try clear hi)))
   go_meet
   case rel=>exact ⟨_,(true),(by first|rfl|(simp;done)|(simp [*];done)),H',⟨by first|omega|exact Nat.le_refl _⟩,⟨by (with_reducible repeat (first|refine blk_drewN ?_ _|refine blk_drew ?_|refine blk_alloc ?_ _));exact BK297.out⟩,⟨by (with_reducible repeat (first|refine blk_drewN ?_ _|refine blk_drew ?_|refine blk_alloc ?_ _));exact BK298.out⟩,⟨by repeat (first|(with_reducible first|exact HB.out|apply below_alloc|apply pw_below_drewN|apply below_drew1|refine below_set ?_ GE297.out|refine below_set ?_ GE298.out)|exact HB.out)⟩⟩
 case rest =>
  clear HC3
  try clear c1
  try clear c2
  try clear p2
  try clear c3
  try clear c7
  try clear c8
  try clear c11
  try clear hcz12_0
  try clear hcz12_1
  try clear hcz9_0
  try clear hcz9_1
  try clear hfz12_0
  try clear hfz12_1
  try clear hfz9_0
  try clear hfz9_1
  obtain ⟨kq,x18_2,rfl,HA,HJ2,BK297,BK298,HB⟩:=hcut
  cases kq with
  | zero=>exact absurd HA.out (by simp [impl_PutText.j0])
  | succ kj2 =>
   have H:=HA.out
   clear HA
   simp only [impl_PutText.j0] at H
   by_cases c14:x18_2 = true
   ·subst c14
    have H1:(some (([]:List ByteArray),([]:List ByteArray),false)) = some (r1,r2,r3):=by rw [if_pos rfl] at H;exact H
    clear H
    have H:=H1
    clear H1
    simp only [Option.some.injEq,Prod.mk.injEq] at H
    obtain ⟨rfl,rfl,rfl⟩:=H
    have hnb15:=NB298_297.out
    have hnc15:=NB297_298.out
    have hcz16_0:wc.cell? ⟨gb298,0,none⟩ = some (.slice none 0 0):=(blk_cell BK298.out 0).trans rfl
    have hcz16_1:wc.cell? ⟨gb298,1,none⟩ = some (.slice none 0 0):=(blk_cell BK298.out 1).trans rfl
    have hfz16_0:=blk_frozen BK298.out 0
    have hfz16_1:=blk_frozen BK298.out 1
    go_wp2
    refine bodyPost_ret (results_ct rfl _ _ gb298 34 #[.slice none 0 0,.slice none 0 0] (0,0) _ rfl (by (with_reducible repeat (first|refine blk_drewN ?_ _|refine blk_drew ?_|refine blk_alloc ?_ _));refine blk_put (cs:=#[.slice none 0 0,.slice none 0 0]) ?_ 1 _ rfl;(with_reducible repeat (first|refine blk_drewN ?_ _|refine blk_drew ?_|refine blk_alloc ?_ _));refine blk_put (cs:=#[.slice none 0 0,.slice none 0 0]) ?_ 0 _ rfl;(with_reducible repeat (first|refine blk_drewN ?_ _|refine blk_drew ?_|refine blk_alloc ?_ _));exact BK298.out) Try.underlying34 rfl (by kernel_rfl)) rfl ?_
    exact ⟨_,_,by first|rfl|(simp [errW_none,errW_some] <;> rfl)|(simp [*,errW_none,errW_some] <;> rfl),by first|exact Kd.R_nil _ _ _ _ _|exact Kd.N_nil _ _ _ _ _|exact Kd.V_nil _ _ _ _ _|exact Kd.Q_nil _ _ _ _ _|exact Kd.S_nil _ _ _ _ _,by first|exact Kd.R_nil _ _ _ _ _|exact Kd.N_nil _ _ _ _ _|exact Kd.V_nil _ _ _ _ _|exact Kd.Q_nil _ _ _ _ _|exact Kd.S_nil _ _ _ _ _,by repeat (first|(with_reducible first|exact HB.out|apply below_alloc|apply pw_below_drewN|apply below_drew1|refine below_set ?_ GE297.out|refine below_set ?_ GE298.out)|exact HB.out)⟩
   ·replace c14:=Bool.eq_false_iff.mpr c14
    subst c14
    have H1:((impl_Disk_texts.f kj2 l0_0 l0_1).bind fun bt300=>((impl_Disk_size.f l0_0 l0_1).bind fun t304=>(if bt300.2 = t304 then ((impl_Disk_copied.f l0_0 l0_1).bind fun bt305=>(impl_PutText.l0 kj2 a1 true bt305.1 bt305.2)) else (some (([]:List ByteArray),([]:List ByteArray),false))))) = some (r1,r2,r3):=by rw [if_neg (show ¬ (false = true) by decide)] at H;exact H
    clear H
    have H:=H1
    clear H1
    replace H:=Option.bind_eq_some_iff.mp H
    obtain ⟨⟨t300,t303⟩,A170,H⟩:=H
    replace H:((impl_Disk_size.f l0_0 l0_1).bind fun t304=>(if t303 = t304 then ((impl_Disk_copied.f l0_0 l0_1).bind fun bt305=>(impl_PutText.l0 kj2 a1 true bt305.1 bt305.2)) else (some (([]:List ByteArray),([]:List ByteArray),false)))) = some (r1,r2,r3):=H
    have A17:=Aside0.mk A170
    clear A170
    replace H:=Option.bind_eq_some_iff.mp H
    obtain ⟨t304,A180,H⟩:=H
    replace H:(if t303 = t304 then ((impl_Disk_copied.f l0_0 l0_1).bind fun bt305=>(impl_PutText.l0 kj2 a1 true bt305.1 bt305.2)) else (some (([]:List ByteArray),([]:List ByteArray),false))) = some (r1,r2,r3):=H
    have A18:=Aside0.mk A180
    clear A180
    by_cases c19:t303 = t304
    ·rw [if_pos c19] at H
     have c19b0:(t303 == t304) = true:=beq_iff_eq.mpr c19
     have c19b1:(t303 != t304) = false:=bne_eq_false_iff_eq.mpr c19
     clear c19
     replace H:=Option.bind_eq_some_iff.mp H
     obtain ⟨⟨t305,t308⟩,A200,H⟩:=H
     replace H:(impl_PutText.l0 kj2 a1 true t305 t308) = some (r1,r2,r3):=H
     have A20:=Aside0.mk A200
     clear A200
     have H':=Aside0.mk H
     clear H
     have hnb21:=NB297_298.out
     have hnc21:=NB298_297.out
     have hcz22_0:wc.cell? ⟨gb297,0,none⟩ = some (.slice A0_0 l0_0.length c0_0):=(blk_cell BK297.out 0).trans rfl
     have hcz22_1:wc.cell? ⟨gb297,1,none⟩ = some (.slice A0_1 l0_1.length c0_1):=(blk_cell BK297.out 1).trans rfl
     have hfz22_0:=blk_frozen BK297.out 0
     have hfz22_1:=blk_frozen BK297.out 1
     go_wp2_with (first|((with_reducible refine gate_callee (f:=39) rfl ?_);refine goesL_ (some 22) rfl rfl Try.func39 (by kernel_rfl) rfl #[.agg #[.slice A0_0 l0_0.length c0_0,.slice A0_1 l0_1.length c0_1]] rfl (by (try simp only [List.map_toArray,List.map_cons,List.map_nil]);first|done|rfl|(simp only [List.length_drop,List.length_take];rfl)) ?_;(with_reducible refine (impl_Disk_texts.calls kj2 (fun k_=>k_ < w.heap.size) _ _ l0_0 (fun k_=>k_ < w.heap.size) _ _ l0_1 t300 t303 _ ?side1 ?side2 A17.out).mono ?_);(case side1=>exact Kd.V_mk HC0_0.out (Kd.F_below (Kd.C_F Kd.heap_string HR0_0.out) (by repeat (first|(with_reducible first|exact HB.out|apply below_alloc|apply pw_below_drewN|apply below_drew1|refine below_set ?_ GE297.out|refine below_set ?_ GE298.out)|exact HB.out))));(case side2=>exact Kd.V_mk HC0_1.out (Kd.F_below (Kd.C_F Kd.heap_string HR0_1.out) (by repeat (first|(with_reducible first|exact HB.out|apply below_alloc|apply pw_below_drewN|apply below_drew1|refine below_set ?_ GE297.out|refine below_set ?_ GE298.out)|exact HB.out))));rintro e w23 ⟨v301,rfl,ho0,hb⟩;refine ⟨_,rfl,?_⟩;have n0_:=Aside0.mk (Kd.R_lower (Kd.R_mono (ok':=fun k_=>True) ho0 (fun _ hk_=>trivial)) (below_size (by repeat (first|(with_reducible first|exact HB.out|apply below_alloc|apply pw_below_drewN|apply below_drew1|refine below_set ?_ GE297.out|refine below_set ?_ GE298.out)|exact HB.out))));have n1_:=Aside0.mk (blk_below (g:=gb297) (o:=.cells #[.slice A0_0 l0_0.length c0_0,.slice A0_1 l0_1.length c0_1] 34 (0,0)) (by (with_reducible repeat (first|refine blk_drewN ?_ _|refine blk_drew ?_|refine blk_alloc ?_ _));exact BK297.out) hb);have n2_:=Aside0.mk (blk_below (g:=gb298) (o:=.cells #[.slice none 0 0,.slice none 0 0] 34 (0,0)) (by (with_reducible repeat (first|refine blk_drewN ?_ _|refine blk_drew ?_|refine blk_alloc ?_ _));exact BK298.out) hb);have n3_:=Aside0.mk (below_step (by repeat (first|(with_reducible first|exact HB.out|apply below_alloc|apply pw_below_drewN|apply below_drew1|refine below_set ?_ GE297.out|refine below_set ?_ GE298.out)|exact HB.out)) hb);clear BK297;clear BK298;clear HB;have HO302:=n0_;have BK297:=n1_;have BK298:=n2_;have HB:=n3_;clear n0_ n1_ n2_ n3_;(try clear hb);(try clear hb2);(try clear hk);(try clear hi);(try clear ho0);have hcz24_0:w23.cell? ⟨gb297,0,none⟩ = some (.slice A0_0 l0_0.length c0_0):=(blk_cell BK297.out 0).trans rfl;have hcz24_1:w23.cell? ⟨gb297,1,none⟩ = some (.slice A0_1 l0_1.length c0_1):=(blk_cell BK297.out 1).trans rfl;have hfz24_0:=blk_frozen BK297.out 0;have hfz24_1:=blk_frozen BK297.out 1)|((with_reducible refine gate_callee (f:=44) rfl ?_);refine goesL_ (some 27) rfl rfl Try.func44 (by kernel_rfl) rfl #[.agg #[.slice A0_0 l0_0.length c0_0,.slice A0_1 l0_1.length c0_1]] rfl (by (try simp only [List.map_toArray,List.map_cons,List.map_nil]);first|done|rfl|(simp only [List.length_drop,List.length_take];rfl)) ?_;(with_reducible refine (impl_Disk_size.calls _ _ l0_0 _ _ l0_1 t304 _ ?side1 ?side2 ?side3 ?side4 A18.out).mono ?_);(case side1=>repeat (first|exact (Kd.C_below HR0_0.out HB.out)|(with_reducible refine Kd.C_alloc ?_ _)|(with_reducible refine Kd.C_drewN ?_ _)|(with_reducible refine Kd.C_drew ?_)));(case side2=>exact HC0_0.out);(case side3=>repeat (first|exact (Kd.C_below HR0_1.out HB.out)|(with_reducible refine Kd.C_alloc ?_ _)|(with_reducible refine Kd.C_drewN ?_ _)|(with_reducible refine Kd.C_drew ?_)));(case side4=>exact HC0_1.out);rintro e w25 ⟨rfl,hb⟩;refine ⟨_,rfl,?_⟩;have n0_:=Aside0.mk (Kd.R_below (by (with_reducible repeat (first|apply Kd.R_alloc|apply Kd.R_drewN|apply Kd.R_drew));exact HO302.out) hb);have n1_:=Aside0.mk (blk_below (g:=gb297) (o:=.cells #[.slice A0_0 l0_0.length c0_0,.slice A0_1 l0_1.length c0_1] 34 (0,0)) (by (with_reducible repeat (first|refine blk_drewN ?_ _|refine blk_drew ?_|refine blk_alloc ?_ _));exact BK297.out) hb);have n2_:=Aside0.mk (blk_below (g:=gb298) (o:=.cells #[.slice none 0 0,.slice none 0 0] 34 (0,0)) (by (with_reducible repeat (first|refine blk_drewN ?_ _|refine blk_drew ?_|refine blk_alloc ?_ _));exact BK298.out) hb);have n3_:=Aside0.mk (below_step (by repeat (first|(with_reducible first|exact HB.out|apply below_alloc|apply pw_below_drewN|apply below_drew1|refine below_set ?_ GE297.out|refine below_set ?_ GE298.out)|exact HB.out)) hb);clear HO302;clear BK297;clear BK298;clear HB;have HO302:=n0_;have BK297:=n1_;have BK298:=n2_;have HB:=n3_;clear n0_ n1_ n2_ n3_;(try clear hb);(try clear hb2);(try clear hk);(try clear hi);have hcz26_0:w25.cell? ⟨gb297,0,none⟩ = some (.slice A0_0 l0_0.length c0_0):=(blk_cell BK297.out 0).trans rfl;have hcz26_1:w25.cell? ⟨gb297,1,none⟩ = some (.slice A0_1 l0_1.length c0_1):=(blk_cell BK297.out 1).trans rfl;have hfz26_0:=blk_frozen BK297.out 0;have hfz26_1:=blk_frozen BK297.out 1)|((with_reducible refine gate_callee (f:=45) rfl ?_);refine goesL_ (some 31) rfl rfl Try.func45 (by kernel_rfl) rfl #[.agg #[.slice A0_0 l0_0.length c0_0,.slice A0_1 l0_1.length c0_1]] rfl (by (try simp only [List.map_toArray,List.map_cons,List.map_nil]);first|done|rfl|(simp only [List.length_drop,List.length_take];rfl)) ?_;(with_reducible refine (impl_Disk_copied.calls _ _ l0_0 _ _ l0_1 t305 t308 _ ?side1 ?side2 ?side3 ?side4 A20.out).mono ?_);(case side1=>repeat (first|exact (Kd.C_below HR0_0.out HB.out)|(with_reducible refine Kd.C_alloc ?_ _)|(with_reducible refine Kd.C_drewN ?_ _)|(with_reducible refine Kd.C_drew ?_)));(case side2=>exact HC0_0.out);(case side3=>repeat (first|exact (Kd.C_below HR0_1.out HB.out)|(with_reducible refine Kd.C_alloc ?_ _)|(with_reducible refine Kd.C_drewN ?_ _)|(with_reducible refine Kd.C_drew ?_)));(case side4=>exact HC0_1.out);rintro e w27 ⟨v306,v309,rfl,ho0,ho1,hb⟩;refine ⟨_,rfl,?_⟩;have n0_:=Aside0.mk (Kd.R_mono (Kd.R_told (Kd.R_told (Kd.R_old (by (with_reducible repeat (first|apply Kd.R_alloc|apply Kd.R_drewN|apply Kd.R_drew));exact HO302.out) hb) (Kd.R_base ho0)) (Kd.R_base ho1)) (fun _ h_=>h_.1));have n1_:=Aside0.mk (Kd.R_lower (Kd.R_new' ho0 (Kd.R_lt (by (with_reducible repeat (first|apply Kd.R_alloc|apply Kd.R_drewN|apply Kd.R_drew));exact HO302.out))) (below_size (by repeat (first|(with_reducible first|exact HB.out|apply below_alloc|apply pw_below_drewN|apply below_drew1|refine below_set ?_ GE297.out|refine below_set ?_ GE298.out)|exact HB.out))));have n2_:=Aside0.mk (Kd.R_lower (Kd.R_new' ho1 (Kd.R_lt (by (with_reducible repeat (first|apply Kd.R_alloc|apply Kd.R_drewN|apply Kd.R_drew));exact HO302.out))) (below_size (by repeat (first|(with_reducible first|exact HB.out|apply below_alloc|apply pw_below_drewN|apply below_drew1|refine below_set ?_ GE297.out|refine below_set ?_ GE298.out)|exact HB.out))));have n3_:=Aside0.mk (blk_below (g:=gb297) (o:=.cells #[.slice A0_0 l0_0.length c0_0,.slice A0_1 l0_1.length c0_1] 34 (0,0)) (by (with_reducible repeat (first|refine blk_drewN ?_ _|refine blk_drew ?_|refine blk_alloc ?_ _));exact BK297.out) hb);have n4_:=Aside0.mk (blk_below (g:=gb298) (o:=.cells #[.slice none 0 0,.slice none 0 0] 34 (0,0)) (by (with_reducible repeat (first|refine blk_drewN ?_ _|refine blk_drew ?_|refine blk_alloc ?_ _));exact BK298.out) hb);have n5_:=Aside0.mk (below_step (by repeat (first|(with_reducible first|exact HB.out|apply below_alloc|apply pw_below_drewN|apply below_drew1|refine below_set ?_ GE297.out|refine below_set ?_ GE298.out)|exact HB.out)) hb);clear HO302;clear BK297;clear BK298;clear HB;have HO302:=n0_;have HO307:=n1_;have HO310:=n2_;have BK297:=n3_;have BK298:=n4_;have HB:=n5_;clear n0_ n1_ n2_ n3_ n4_ n5_;(try clear hb);(try clear hb2);(try clear hk);(try clear hi);(try clear ho0);(try clear ho1))|((with_reducible refine gate_dst (N:=8) rfl ?_);(try (refine gate_guard (by rfl) ?_;dsimp only));refine box_event ?hg (N:=8) ?hd (cs:=#[.slice none 0 0,.slice none 0 0]) (t:=34) ?hr ?_;(case hd=>rfl);(case hg=>rfl);(case hr=>first|(go_simp;done)|(go_simp;rfl));intro gb311 hg w28 hbox hb;have n0_:=Aside0.mk (Kd.R_below (by (with_reducible repeat (first|apply Kd.R_alloc|apply Kd.R_drewN|apply Kd.R_drew));exact HO302.out) hb);have n1_:=Aside0.mk (Kd.R_below (by (with_reducible repeat (first|apply Kd.R_alloc|apply Kd.R_drewN|apply Kd.R_drew));exact HO307.out) hb);have n2_:=Aside0.mk (Kd.R_below (by (with_reducible repeat (first|apply Kd.R_alloc|apply Kd.R_drewN|apply Kd.R_drew));exact HO310.out) hb);have n3_:=Aside0.mk (blk_below (g:=gb297) (o:=.cells #[.slice A0_0 l0_0.length c0_0,.slice A0_1 l0_1.length c0_1] 34 (0,0)) (by (with_reducible repeat (first|refine blk_drewN ?_ _|refine blk_drew ?_|refine blk_alloc ?_ _));exact BK297.out) hb);have n4_:=Aside0.mk (blk_below (g:=gb298) (o:=.cells #[.slice none 0 0,.slice none 0 0] 34 (0,0)) (by (with_reducible repeat (first|refine blk_drewN ?_ _|refine blk_drew ?_|refine blk_alloc ?_ _));exact BK298.out) hb);have n5_:=Aside0.mk (below_step (by repeat (first|(with_reducible first|exact HB.out|apply below_alloc|apply pw_below_drewN|apply below_drew1|refine below_set ?_ GE297.out|refine below_set ?_ GE298.out)|exact HB.out)) hb);have n6_:=Aside0.mk (hbox);have n7_:=Aside0.mk ((by rw [hg];exact (below_size (by repeat (first|(with_reducible first|exact HB.out|apply below_alloc|apply pw_below_drewN|apply below_drew1|refine below_set ?_ GE297.out|refine below_set ?_ GE298.out)|exact HB.out))):w.heap.size ≤ gb311));have n8_:=Aside0.mk ((by rw [hg];exact (below_size (by repeat (first|(with_reducible first|exact HB.out|apply below_alloc|apply pw_below_drewN|apply below_drew1|refine below_set ?_ GE297.out|refine below_set ?_ GE298.out)|exact HB.out))):w.heap.size ≤ gb311));have n9_:=Aside0.mk ((by rw [hg];exact Nat.ne_of_lt (blk_lt (g:=gb297) (o:=.cells #[.slice A0_0 l0_0.length c0_0,.slice A0_1 l0_1.length c0_1] 34 (0,0)) (by (with_reducible repeat (first|refine blk_drewN ?_ _|refine blk_drew ?_|refine blk_alloc ?_ _));exact BK297.out)):gb297 ≠ gb311));have n10_:=Aside0.mk ((by rw [hg];exact Nat.ne_of_gt (blk_lt (g:=gb297) (o:=.cells #[.slice A0_0 l0_0.length c0_0,.slice A0_1 l0_1.length c0_1] 34 (0,0)) (by (with_reducible repeat (first|refine blk_drewN ?_ _|refine blk_drew ?_|refine blk_alloc ?_ _));exact BK297.out)):gb311 ≠ gb297));have n11_:=Aside0.mk ((by rw [hg];exact Nat.ne_of_lt (blk_lt (g:=gb298) (o:=.cells #[.slice none 0 0,.slice none 0 0] 34 (0,0)) (by (with_reducible repeat (first|refine blk_drewN ?_ _|refine blk_drew ?_|refine blk_alloc ?_ _));exact BK298.out)):gb298 ≠ gb311));have n12_:=Aside0.mk ((by rw [hg];exact Nat.ne_of_gt (blk_lt (g:=gb298) (o:=.cells #[.slice none 0 0,.slice none 0 0] 34 (0,0)) (by (with_reducible repeat (first|refine blk_drewN ?_ _|refine blk_drew ?_|refine blk_alloc ?_ _));exact BK298.out)):gb311 ≠ gb298));clear HO302;clear HO307;clear HO310;clear BK297;clear BK298;clear HB;have HO302:=n0_;have HO307:=n1_;have HO310:=n2_;have BK297:=n3_;have BK298:=n4_;have HB:=n5_;have BK311:=n6_;have GW311:=n7_;have GE311:=n8_;have NB297_311:=n9_;have NB311_297:=n10_;have NB298_311:=n11_;have NB311_298:=n12_;clear n0_ n1_ n2_ n3_ n4_ n5_ n6_ n7_ n8_ n9_ n10_ n11_ n12_;clear hb hbox hg;obtain ⟨Ao29,co29,eo29⟩:=Kd.R_slice HO307.out;subst eo29;have hnb30:=NB311_297.out;have hnc30:=NB297_311.out;have hnb31:=NB311_298.out;have hnc31:=NB298_311.out;have hcz32_0:w28.cell? ⟨gb311,0,none⟩ = some (.slice none 0 0):=(blk_cell BK311.out 0).trans rfl;have hcz32_1:w28.cell? ⟨gb311,1,none⟩ = some (.slice none 0 0):=(blk_cell BK311.out 1).trans rfl;have hfz32_0:=blk_frozen BK311.out 0;have hfz32_1:=blk_frozen BK311.out 1;obtain ⟨Ao33,co33,eo33⟩:=Kd.R_slice HO310.out;subst eo33))
     go_loopg [1,9] kj2 (fun kq v1 v9 w'=>∃ (x1_2:ByteArray) (x9_2:Bool) (x312001_2:List ByteArray) (u312001:Value),v1 = .string x1_2 ∧ v9 = .bool x9_2 ∧ Aside0 (impl_PutText.l0 kq x1_2 x9_2 t305 x312001_2 = some (r1,r2,r3)) ∧ Aside0 (kq ≤ kj2) ∧ Aside0 (Kd.R Kd.string 9 w' w.heap.size (fun k_=>some k_ ≠ (u312001:Value).ownBlock) (.slice Ao29 t305.length co29) t305) ∧ Aside0 (Kd.R Kd.string 9 w' w.heap.size (fun k_=>some k_ ≠ ((.slice Ao29 t305.length co29):Value).ownBlock) u312001 x312001_2) ∧ Aside0 (w'.heap[gb297]? = some (.cells #[(.slice A0_0 l0_0.length c0_0),(.slice A0_1 l0_1.length c0_1)] 34 (0,0))) ∧ Aside0 (w'.heap[gb298]? = some (.cells #[(.slice none 0 0),(.slice none 0 0)] 34 (0,0))) ∧ Aside0 (w'.heap[gb311]? = some (.cells #[(.slice Ao29 t305.length co29),u312001] 34 (0,0))) ∧ Aside0 (Below w.heap.size w w'))
     case atStart=>exact ⟨(a1),(true),(t308),(.slice Ao33 t308.length co33),(by first|rfl|(simp;done)|(simp [*];done)),(by first|rfl|(simp;done)|(simp [*];done)),H',⟨Nat.le_refl _⟩,⟨by (with_reducible repeat (first|apply Kd.R_alloc|apply Kd.R_drewN|apply Kd.R_drew));exact Kd.R_mono (Kd.R_far (p:=⟨gb311,1,none⟩) (Kd.R_far (p:=⟨gb311,0,none⟩) (Kd.R_types HO307.out BK311.out (by decide)) (fun _ hk=>hk.2) (.slice Ao29 t305.length co29)) (fun _ hk=>hk.2) (.slice Ao33 t308.length co33)) (fun _ hk=>hk.1.1)⟩,⟨by (with_reducible repeat (first|apply Kd.R_alloc|apply Kd.R_drewN|apply Kd.R_drew));exact Kd.R_mono (Kd.R_far (p:=⟨gb311,1,none⟩) (Kd.R_far (p:=⟨gb311,0,none⟩) (Kd.R_types HO310.out BK311.out (by decide)) (fun _ hk=>hk.2) (.slice Ao29 t305.length co29)) (fun _ hk=>hk.2) (.slice Ao33 t308.length co33)) (fun _ hk=>hk.1.1)⟩,⟨by (with_reducible repeat (first|refine blk_drewN ?_ _|refine blk_drew ?_|refine blk_alloc ?_ _));refine blk_far ?_ NB297_311.out _;(with_reducible repeat (first|refine blk_drewN ?_ _|refine blk_drew ?_|refine blk_alloc ?_ _));refine blk_far ?_ NB297_311.out _;(with_reducible repeat (first|refine blk_drewN ?_ _|refine blk_drew ?_|refine blk_alloc ?_ _));exact BK297.out⟩,⟨by (with_reducible repeat (first|refine blk_drewN ?_ _|refine blk_drew ?_|refine blk_alloc ?_ _));refine blk_far ?_ NB298_311.out _;(with_reducible repeat (first|refine blk_drewN ?_ _|refine blk_drew ?_|refine blk_alloc ?_ _));refine blk_far ?_ NB298_311.out _;(with_reducible repeat (first|refine blk_drewN ?_ _|refine blk_drew ?_|refine blk_alloc ?_ _));exact BK298.out⟩,⟨by (with_reducible repeat (first|refine blk_drewN ?_ _|refine blk_drew ?_|refine blk_alloc ?_ _));refine blk_put (cs:=#[.slice Ao29 t305.length co29,.slice none 0 0]) ?_ 1 _ rfl;(with_reducible repeat (first|refine blk_drewN ?_ _|refine blk_drew ?_|refine blk_alloc ?_ _));refine blk_put (cs:=#[.slice none 0 0,.slice none 0 0]) ?_ 0 _ rfl;(with_reducible repeat (first|refine blk_drewN ?_ _|refine blk_drew ?_|refine blk_alloc ?_ _));exact BK311.out⟩,⟨by repeat (first|(with_reducible first|exact HB.out|apply below_alloc|apply pw_below_drewN|apply below_drew1|refine below_set ?_ GE297.out|refine below_set ?_ GE298.out|refine below_set ?_ GE311.out)|exact HB.out)⟩⟩
     case round =>
      clear H'
      try clear c1
      try clear c2
      try clear p2
      try clear c3
      try clear c4
      try clear c7
      try clear c8
      try clear c11
      try clear c14
      try clear c15
      try clear c19
      try clear c19b0
      try clear c19b1
      try clear c21
      try clear c26
      try clear c30
      try clear c31
      try clear hcz12_0
      try clear hcz12_1
      try clear hcz16_0
      try clear hcz16_1
      try clear hcz22_0
      try clear hcz22_1
      try clear hcz24_0
      try clear hcz24_1
      try clear hcz26_0
      try clear hcz26_1
      try clear hcz32_0
      try clear hcz32_1
      try clear hcz9_0
      try clear hcz9_1
      try clear hfz12_0
      try clear hfz12_1
      try clear hfz16_0
      try clear hfz16_1
      try clear hfz22_0
      try clear hfz22_1
      try clear hfz24_0
      try clear hfz24_1
      try clear hfz26_0
      try clear hfz26_1
      try clear hfz32_0
      try clear hfz32_1
      try clear hfz9_0
      try clear hfz9_1
      try clear p2
      obtain ⟨x1_2,x9_2,x312001_2,u312001,rfl,rfl,HA,HK2,HO_312000,HO_312001,BK297,BK298,BK311,HB⟩:=hrel
      cases gk with
      | zero=>exact absurd HA.out (by simp [impl_PutText.l0])
      | succ k2 =>
       have H:=HA.out
       clear HA
       simp only [impl_PutText.l0] at H
       have HC34:=Aside0.mk H
       clear H
       go_upto_region 8 with (fail)
       go_cut [36] (fun v36 wc=>∃ (kq:Nat) (x36_33:Bool),v36 = .bool x36_33 ∧ Aside0 (impl_PutText.j2 kq x1_2 x36_33 t305 x312001_2 = some (r1,r2,r3)) ∧ Aside0 (kq ≤ k2) ∧ Aside0 (Kd.R Kd.string 9 wc w.heap.size (fun k_=>some k_ ≠ (u312001:Value).ownBlock) (.slice Ao29 t305.length co29) t305) ∧ Aside0 (Kd.R Kd.string 9 wc w.heap.size (fun k_=>some k_ ≠ ((.slice Ao29 t305.length co29):Value).ownBlock) u312001 x312001_2) ∧ Aside0 (wc.heap[gb297]? = some (.cells #[(.slice A0_0 l0_0.length c0_0),(.slice A0_1 l0_1.length c0_1)] 34 (0,0))) ∧ Aside0 (wc.heap[gb298]? = some (.cells #[(.slice none 0 0),(.slice none 0 0)] 34 (0,0))) ∧ Aside0 (wc.heap[gb311]? = some (.cells #[(.slice Ao29 t305.length co29),u312001] 34 (0,0))) ∧ Aside0 (Below w.heap.size w wc))
       case first =>
        have H:=HC34.out
        clear HC34
        by_cases c35:x9_2 = true
        ·subst c35
         have H1:(impl_PutText.j2 k2 x1_2 true t305 x312001_2) = some (r1,r2,r3):=by rw [if_pos rfl] at H;exact H
         clear H
         have H:=H1
         clear H1
         have H':=Aside0.mk H
         clear H
         go_wp2
         go_meet
         case rel=>exact ⟨_,(true),(by first|rfl|(simp;done)|(simp [*];done)),H',⟨by have:=HJ2.out;have:=HK2.out;first|omega|exact Nat.le_refl _⟩,⟨by (with_reducible repeat (first|apply Kd.R_alloc|apply Kd.R_drewN|apply Kd.R_drew));exact HO_312000.out⟩,⟨by (with_reducible repeat (first|apply Kd.R_alloc|apply Kd.R_drewN|apply Kd.R_drew));exact HO_312001.out⟩,⟨by (with_reducible repeat (first|refine blk_drewN ?_ _|refine blk_drew ?_|refine blk_alloc ?_ _));exact BK297.out⟩,⟨by (with_reducible repeat (first|refine blk_drewN ?_ _|refine blk_drew ?_|refine blk_alloc ?_ _));exact BK298.out⟩,⟨by (with_reducible repeat (first|refine blk_drewN ?_ _|refine blk_drew ?_|refine blk_alloc ?_ _));exact BK311.out⟩,⟨by repeat (first|(with_reducible first|exact HB.out|apply below_alloc|apply pw_below_drewN|apply below_drew1|refine below_set ?_ GE297.out|refine below_set ?_ GE298.out|refine below_set ?_ GE311.out)|exact HB.out)⟩⟩
        ·replace c35:=Bool.eq_false_iff.mpr c35
         subst c35
         have H1:(impl_PutText.j2 k2 x1_2 (x1_2.toList != ([]:List UInt8)) t305 x312001_2) = some (r1,r2,r3):=by rw [if_neg (show ¬ (false = true) by decide)] at H;exact H
         clear H
         have H:=H1
         clear H1
         have H':=Aside0.mk H
         clear H
         go_wp2
         go_meet
         case rel=>exact ⟨_,((x1_2.toList != ([]:List UInt8))),(by first|rfl|(simp;done)|(simp [*];done)|(simp;rw [Bool.eq_iff_iff];simp;done)),H',⟨by have:=HJ2.out;have:=HK2.out;first|omega|exact Nat.le_refl _⟩,⟨by (with_reducible repeat (first|apply Kd.R_alloc|apply Kd.R_drewN|apply Kd.R_drew));exact HO_312000.out⟩,⟨by (with_reducible repeat (first|apply Kd.R_alloc|apply Kd.R_drewN|apply Kd.R_drew));exact HO_312001.out⟩,⟨by (with_reducible repeat (first|refine blk_drewN ?_ _|refine blk_drew ?_|refine blk_alloc ?_ _));exact BK297.out⟩,⟨by (with_reducible repeat (first|refine blk_drewN ?_ _|refine blk_drew ?_|refine blk_alloc ?_ _));exact BK298.out⟩,⟨by (with_reducible repeat (first|refine blk_drewN ?_ _|refine blk_drew ?_|refine blk_alloc ?_ _));exact BK311.out⟩,⟨by repeat (first|(with_reducible first|exact HB.out|apply below_alloc|apply pw_below_drewN|apply below_drew1|refine below_set ?_ GE297.out|refine below_set ?_ GE298.out|refine below_set ?_ GE311.out)|exact HB.out)⟩⟩
       case rest =>
        clear HC34
        try clear c1
        try clear c2
        try clear p2
        try clear c3
        try clear c4
        try clear c7
        try clear c8
        try clear c11
        try clear c14
        try clear c15
        try clear c19
        try clear c19b0
        try clear c19b1
        try clear c21
        try clear c26
        try clear c30
        try clear c31
        try clear c35
        try clear hcz12_0
        try clear hcz12_1
        try clear hcz16_0
        try clear hcz16_1
        try clear hcz22_0
        try clear hcz22_1
        try clear hcz24_0
        try clear hcz24_1
        try clear hcz26_0
        try clear hcz26_1
        try clear hcz32_0
        try clear hcz32_1
        try clear hcz9_0
        try clear hcz9_1
        try clear hfz12_0
        try clear hfz12_1
        try clear hfz16_0
        try clear hfz16_1
        try clear hfz22_0
        try clear hfz22_1
        try clear hfz24_0
        try clear hfz24_1
        try clear hfz26_0
        try clear hfz26_1
        try clear hfz32_0
        try clear hfz32_1
        try clear hfz9_0
        try clear hfz9_1
        try clear p2
        obtain ⟨kq,x36_33,rfl,HA,HJ33,HO_312000,HO_312001,BK297,BK298,BK311,HB⟩:=hcut
        cases kq with
        | zero=>exact absurd HA.out (by simp [impl_PutText.j2])
        | succ kj33 =>
         have H:=HA.out
         clear HA
         simp only [impl_PutText.j2] at H
         by_cases c36:x36_33 = true
         ·subst c36
          have H1:((impl_Disk_size.f t305 x312001_2).bind fun t312=>(if t312 = 400 then (some (([]:List ByteArray),([]:List ByteArray),false)) else ((impl_Disk_size.f t305 x312001_2).bind fun t313=>(if 0 ≤ (mn (x1_2.size:Int) 10) then (if (mn (x1_2.size:Int) 10) ≤ (x1_2.size:Int) then ((impl_sector.f kj33 t313 ((mn (x1_2.size:Int) 10) == (x1_2.size:Int)) (x1_2.extract 0 ((mn (x1_2.size:Int) 10):Int).toNat)).bind fun t314=>(if x312001_2.length < 8796093022208 then (impl_PutText.l0 kj33 (x1_2.extract ((mn (x1_2.size:Int) 10):Int).toNat x1_2.size) false t305 (x312001_2 ++ [t314])) else (none))) else (none)) else (none))))) = some (r1,r2,r3):=by rw [if_pos rfl] at H;exact H
          clear H
          have H:=H1
          clear H1
          obtain ⟨ji37,hji37⟩:∃ j_:Int,(mn (x1_2.size:Int) 10) = j_:=⟨_,rfl⟩
          replace H:((impl_Disk_size.f t305 x312001_2).bind fun t312=>(if t312 = 400 then (some (([]:List ByteArray),([]:List ByteArray),false)) else ((impl_Disk_size.f t305 x312001_2).bind fun t313=>(if 0 ≤ (ji37) then (if (ji37) ≤ (x1_2.size:Int) then ((impl_sector.f kj33 t313 ((ji37) == (x1_2.size:Int)) (x1_2.extract 0 ((ji37):Int).toNat)).bind fun t314=>(if x312001_2.length < 8796093022208 then (impl_PutText.l0 kj33 (x1_2.extract ((ji37):Int).toNat x1_2.size) false t305 (x312001_2 ++ [t314])) else (none))) else (none)) else (none))))) = some (r1,r2,r3):=by first|(rw [hji37] at H;exact H)|(simp only [hji37] at H ⊢;exact H)
          have hji37_:(if 10 < (x1_2.size:Int) then 10 else (x1_2.size:Int)) = ji37:=hji37
          replace H:=Option.bind_eq_some_iff.mp H
          obtain ⟨t312,A380,H⟩:=H
          replace H:(if t312 = 400 then (some (([]:List ByteArray),([]:List ByteArray),false)) else ((impl_Disk_size.f t305 x312001_2).bind fun t313=>(if 0 ≤ (ji37) then (if (ji37) ≤ (x1_2.size:Int) then ((impl_sector.f kj33 t313 ((ji37) == (x1_2.size:Int)) (x1_2.extract 0 ((ji37):Int).toNat)).bind fun t314=>(if x312001_2.length < 8796093022208 then (impl_PutText.l0 kj33 (x1_2.extract ((ji37):Int).toNat x1_2.size) false t305 (x312001_2 ++ [t314])) else (none))) else (none)) else (none)))) = some (r1,r2,r3):=H
          have A38:=Aside0.mk A380
          clear A380
          by_cases c39:t312 = 400
          ·rw [if_pos c39] at H
           have c39b0:(t312 == 400) = true:=beq_iff_eq.mpr c39
           have c39b1:(t312 != 400) = false:=bne_eq_false_iff_eq.mpr c39
           clear c39
           simp only [Option.some.injEq,Prod.mk.injEq] at H
           obtain ⟨rfl,rfl,rfl⟩:=H
           have hnb40:=NB311_297.out
           have hnc40:=NB297_311.out
           have hnb41:=NB311_298.out
           have hnc41:=NB298_311.out
           have hcz42_0:wc.cell? ⟨gb311,0,none⟩ = some (.slice Ao29 t305.length co29):=(blk_cell BK311.out 0).trans rfl
           have hcz42_1:wc.cell? ⟨gb311,1,none⟩ = some (u312001):=(blk_cell BK311.out 1).trans rfl
           have hfz42_0:=blk_frozen BK311.out 0
           have hfz42_1:=blk_frozen BK311.out 1
           obtain ⟨Ao43,co43,eo43⟩:=Kd.R_slice HO_312001.out
           subst eo43
           go_wp2_with (first|((with_reducible refine gate_callee (f:=44) rfl ?_);refine goesL_ (some 41) rfl rfl Try.func44 (by kernel_rfl) rfl #[.agg #[.slice Ao29 t305.length co29,.slice Ao43 x312001_2.length co43]] rfl (by (try simp only [List.map_toArray,List.map_cons,List.map_nil]);first|done|rfl|(simp only [List.length_drop,List.length_take];rfl)) ?_;(with_reducible refine (impl_Disk_size.calls _ _ t305 _ _ x312001_2 t312 _ ?side1 ?side2 ?side3 ?side4 A38.out).mono ?_);(case side1=>repeat (first|exact (Kd.R_reads' HO_312000.out).2.2|(with_reducible refine Kd.C_alloc ?_ _)|(with_reducible refine Kd.C_drewN ?_ _)|(with_reducible refine Kd.C_drew ?_)));(case side2=>exact (Kd.R_reads' HO_312000.out).2.1);(case side3=>repeat (first|exact (Kd.R_reads' HO_312001.out).2.2|(with_reducible refine Kd.C_alloc ?_ _)|(with_reducible refine Kd.C_drewN ?_ _)|(with_reducible refine Kd.C_drew ?_)));(case side4=>exact (Kd.R_reads' HO_312001.out).2.1);rintro e w44 ⟨rfl,hb⟩;refine ⟨_,rfl,?_⟩;have n0_:=Aside0.mk (Kd.R_below (by (with_reducible repeat (first|apply Kd.R_alloc|apply Kd.R_drewN|apply Kd.R_drew));exact HO_312000.out) hb);have n1_:=Aside0.mk (Kd.R_below (by (with_reducible repeat (first|apply Kd.R_alloc|apply Kd.R_drewN|apply Kd.R_drew));exact HO_312001.out) hb);have n2_:=Aside0.mk (blk_below (g:=gb297) (o:=.cells #[.slice A0_0 l0_0.length c0_0,.slice A0_1 l0_1.length c0_1] 34 (0,0)) (by (with_reducible repeat (first|refine blk_drewN ?_ _|refine blk_drew ?_|refine blk_alloc ?_ _));exact BK297.out) hb);have n3_:=Aside0.mk (blk_below (g:=gb298) (o:=.cells #[.slice none 0 0,.slice none 0 0] 34 (0,0)) (by (with_reducible repeat (first|refine blk_drewN ?_ _|refine blk_drew ?_|refine blk_alloc ?_ _));exact BK298.out) hb);have n4_:=Aside0.mk (blk_below (g:=gb311) (o:=.cells #[.slice Ao29 t305.length co29,.slice Ao43 x312001_2.length co43] 34 (0,0)) (by (with_reducible repeat (first|refine blk_drewN ?_ _|refine blk_drew ?_|refine blk_alloc ?_ _));exact BK311.out) hb);have n5_:=Aside0.mk (below_step (by repeat (first|(with_reducible first|exact HB.out|apply below_alloc|apply pw_below_drewN|apply below_drew1|refine below_set ?_ GE297.out|refine below_set ?_ GE298.out|refine below_set ?_ GE311.out)|exact HB.out)) hb);clear HO_312000;clear HO_312001;clear BK297;clear BK298;clear BK311;clear HB;have HO_312000:=n0_;have HO_312001:=n1_;have BK297:=n2_;have BK298:=n3_;have BK311:=n4_;have HB:=n5_;clear n0_ n1_ n2_ n3_ n4_ n5_;(try clear hb);(try clear hb2);(try clear hk);(try clear hi);have hnb45:=NB298_297.out;have hnc45:=NB297_298.out;have hcz46_0:w44.cell? ⟨gb298,0,none⟩ = some (.slice none 0 0):=(blk_cell BK298.out 0).trans rfl;have hcz46_1:w44.cell? ⟨gb298,1,none⟩ = some (.slice none 0 0):=(blk_cell BK298.out 1).trans rfl;have hfz46_0:=blk_frozen BK298.out 0;have hfz46_1:=blk_frozen BK298.out 1))
           refine bodyPost_ret (results_ct rfl _ _ gb298 34 #[.slice none 0 0,.slice none 0 0] (0,0) _ rfl (by (with_reducible repeat (first|refine blk_drewN ?_ _|refine blk_drew ?_|refine blk_alloc ?_ _));refine blk_put (cs:=#[.slice none 0 0,.slice none 0 0]) ?_ 1 _ rfl;(with_reducible repeat (first|refine blk_drewN ?_ _|refine blk_drew ?_|refine blk_alloc ?_ _));refine blk_put (cs:=#[.slice none 0 0,.slice none 0 0]) ?_ 0 _ rfl;(with_reducible repeat (first|refine blk_drewN ?_ _|refine blk_drew ?_|refine blk_alloc ?_ _));exact BK298.out) Try.underlying34 rfl (by kernel_rfl)) rfl ?_
           exact ⟨_,_,by first|rfl|(simp [errW_none,errW_some] <;> rfl)|(simp only [← hji37];first|rfl|(simp [errW_none,errW_some] <;> rfl))|(simp [*,errW_none,errW_some] <;> rfl),by first|exact Kd.R_nil _ _ _ _ _|exact Kd.N_nil _ _ _ _ _|exact Kd.V_nil _ _ _ _ _|exact Kd.Q_nil _ _ _ _ _|exact Kd.S_nil _ _ _ _ _,by first|exact Kd.R_nil _ _ _ _ _|exact Kd.N_nil _ _ _ _ _|exact Kd.V_nil _ _ _ _ _|exact Kd.Q_nil _ _ _ _ _|exact Kd.S_nil _ _ _ _ _,by repeat (first|(with_reducible first|exact HB.out|apply below_alloc|apply pw_below_drewN|apply below_drew1|refine below_set ?_ GE297.out|refine below_set ?_ GE298.out|refine below_set ?_ GE311.out)|exact HB.out)⟩
          ·rw [if_neg c39] at H
           have c39b0:(t312 == 400) = false:=beq_eq_false_iff_ne.mpr c39
           have c39b1:(t312 != 400) = true:=bne_iff_ne.mpr c39
           replace H:=Option.bind_eq_some_iff.mp H
           obtain ⟨t313,A470,H⟩:=H
           replace H:(if 0 ≤ (ji37) then (if (ji37) ≤ (x1_2.size:Int) then ((impl_sector.f kj33 t313 ((ji37) == (x1_2.size:Int)) (x1_2.extract 0 ((ji37):Int).toNat)).bind fun t314=>(if x312001_2.length < 8796093022208 then (impl_PutText.l0 kj33 (x1_2.extract ((ji37):Int).toNat x1_2.size) false t305 (x312001_2 ++ [t314])) else (none))) else (none)) else (none)) = some (r1,r2,r3):=H
           have A47:=Aside0.mk A470
           clear A470
           by_cases c48:0 ≤ (ji37)
           ·rw [if_pos c48] at H
            have c48b0:=eq_true c48
            have c48b1:decide (0 ≤ (ji37)) = true:=decide_eq_true c48
            clear c48
            by_cases c49:(ji37) ≤ (x1_2.size:Int)
            ·rw [if_pos c49] at H
             have c49b0:=eq_true c49
             have c49b1:decide ((ji37) ≤ (x1_2.size:Int)) = true:=decide_eq_true c49
             clear c49
             replace H:=Option.bind_eq_some_iff.mp H
             obtain ⟨t314,A500,H⟩:=H
             replace H:(if x312001_2.length < 8796093022208 then (impl_PutText.l0 kj33 (x1_2.extract ((ji37):Int).toNat x1_2.size) false t305 (x312001_2 ++ [t314])) else (none)) = some (r1,r2,r3):=H
             have A50:=Aside0.mk A500
             clear A500
             by_cases c51:x312001_2.length < 8796093022208
             ·rw [if_pos c51] at H
              have LMc51:=Aside0.mk c51
              clear c51
              obtain ⟨y315,hy315⟩:∃ y_:List ByteArray,y_ = (x312001_2 ++ [t314]):=⟨_,rfl⟩
              replace H:(impl_PutText.l0 kj33 (x1_2.extract ((ji37):Int).toNat x1_2.size) false t305 y315) = some (r1,r2,r3):=by first|(rw [hy315];with_reducible exact H)|(have H2_:=(Option.bind_some _ _).symm.trans H;rw [hy315];with_reducible exact H2_)|(have H2_:=(Option.bind_some _ _).symm.trans H;with_reducible exact H2_)|with_reducible exact H|(rw [hy315];exact H)|exact H
              have Ny315:=Aside0.mk hy315
              clear hy315
              have c52b0:=eq_true (of_decide_eq_true (by first|(with_reducible assumption)|assumption):0 ≤ (ji37))
              have c53b0:=eq_true (of_decide_eq_true (by first|(with_reducible assumption)|assumption):(ji37) ≤ (x1_2.size:Int))
              have H':=Aside0.mk H
              clear H
              have hnb54:=NB311_297.out
              have hnc54:=NB297_311.out
              have hnb55:=NB311_298.out
              have hnc55:=NB298_311.out
              have hcz56_0:wc.cell? ⟨gb311,0,none⟩ = some (.slice Ao29 t305.length co29):=(blk_cell BK311.out 0).trans rfl
              have hcz56_1:wc.cell? ⟨gb311,1,none⟩ = some (u312001):=(blk_cell BK311.out 1).trans rfl
              have hfz56_0:=blk_frozen BK311.out 0
              have hfz56_1:=blk_frozen BK311.out 1
              obtain ⟨Ao57,co57,eo57⟩:=Kd.R_slice HO_312001.out
              subst eo57
              try go_wp2_with (first|((with_reducible refine gate_callee (f:=44) rfl ?_);refine goesL_ (some 41) rfl rfl Try.func44 (by kernel_rfl) rfl #[.agg #[.slice Ao29 t305.length co29,.slice Ao57 x312001_2.length co57]] rfl (by (try simp only [List.map_toArray,List.map_cons,List.map_nil]);first|done|rfl|(simp only [List.length_drop,List.length_take];rfl)) ?_;(with_reducible refine (impl_Disk_size.calls _ _ t305 _ _ x312001_2 t312 _ ?side1 ?side2 ?side3 ?side4 A38.out).mono ?_);(case side1=>repeat (first|exact (Kd.R_reads' HO_312000.out).2.2|(with_reducible refine Kd.C_alloc ?_ _)|(with_reducible refine Kd.C_drewN ?_ _)|(with_reducible refine Kd.C_drew ?_)));(case side2=>exact (Kd.R_reads' HO_312000.out).2.1);(case side3=>repeat (first|exact (Kd.R_reads' HO_312001.out).2.2|(with_reducible refine Kd.C_alloc ?_ _)|(with_reducible refine Kd.C_drewN ?_ _)|(with_reducible refine Kd.C_drew ?_)));(case side4=>exact (Kd.R_reads' HO_312001.out).2.1);rintro e w58 ⟨rfl,hb⟩;refine ⟨_,rfl,?_⟩;have n0_:=Aside0.mk (Kd.R_below (by (with_reducible repeat (first|apply Kd.R_alloc|apply Kd.R_drewN|apply Kd.R_drew));exact HO_312000.out) hb);have n1_:=Aside0.mk (Kd.R_below (by (with_reducible repeat (first|apply Kd.R_alloc|apply Kd.R_drewN|apply Kd.R_drew));exact HO_312001.out) hb);have n2_:=Aside0.mk (blk_below (g:=gb297) (o:=.cells #[.slice A0_0 l0_0.length c0_0,.slice A0_1 l0_1.length c0_1] 34 (0,0)) (by (with_reducible repeat (first|refine blk_drewN ?_ _|refine blk_drew ?_|refine blk_alloc ?_ _));exact BK297.out) hb);have n3_:=Aside0.mk (blk_below (g:=gb298) (o:=.cells #[.slice none 0 0,.slice none 0 0] 34 (0,0)) (by (with_reducible repeat (first|refine blk_drewN ?_ _|refine blk_drew ?_|refine blk_alloc ?_ _));exact BK298.out) hb);have n4_:=Aside0.mk (blk_below (g:=gb311) (o:=.cells #[.slice Ao29 t305.length co29,.slice Ao57 x312001_2.length co57] 34 (0,0)) (by (with_reducible repeat (first|refine blk_drewN ?_ _|refine blk_drew ?_|refine blk_alloc ?_ _));exact BK311.out) hb);have n5_:=Aside0.mk (below_step (by repeat (first|(with_reducible first|exact HB.out|apply below_alloc|apply pw_below_drewN|apply below_drew1|refine below_set ?_ GE297.out|refine below_set ?_ GE298.out|refine below_set ?_ GE311.out)|exact HB.out)) hb);clear HO_312000;clear HO_312001;clear BK297;clear BK298;clear BK311;clear HB;have HO_312000:=n0_;have HO_312001:=n1_;have BK297:=n2_;have BK298:=n3_;have BK311:=n4_;have HB:=n5_;clear n0_ n1_ n2_ n3_ n4_ n5_;(try clear hb);(try clear hb2);(try clear hk);(try clear hi)))
              have n0_:=Aside0.mk (Kd.R_drew HO_312000.out)
              have n1_:=Aside0.mk (Kd.R_drew HO_312001.out)
              have n2_:=Aside0.mk (blk_drew BK297.out)
              have n3_:=Aside0.mk (blk_drew BK298.out)
              have n4_:=Aside0.mk (blk_drew BK311.out)
              have n5_:=Aside0.mk (below_drew1 HB.out)
              clear HO_312000
              clear HO_312001
              clear BK297
              clear BK298
              clear BK311
              clear HB
              have HO_312000:=n0_
              have HO_312001:=n1_
              have BK297:=n2_
              have BK298:=n3_
              have BK311:=n4_
              have HB:=n5_
              clear n0_ n1_ n2_ n3_ n4_ n5_
              refine start_ (n:=16) (S:=fun w'=>w'.cell? ⟨gb311,0,none⟩ = some (.slice Ao29 t305.length co29) ∧ w'.cell? ⟨gb311,1,none⟩ = some (.slice Ao57 x312001_2.length co57)) (ds:=[15]) #[false,false,false,false,false,false,false,false,false,false,false,false,false,false,false,false] (by kernel_rfl) rfl rfl ⟨(blk_cell BK311.out 0).trans rfl,(blk_cell BK311.out 1).trans rfl⟩ (fun hHeld=>?_);refine with_tabW impl_PutText.tab13 impl_PutText.bits13 (fun HT_ HW_=>?_)
              generalize w58.drew = w59 at HO_312000 HO_312001 BK297 BK298 BK311 HB hHeld ⊢
              refine pure_ (i:=0) (N:=some 44) (v:=?_) (a':=?_) #[true,false,false,false,false,false,false,false,false,false,false,false,false,false,false,false] rfl rfl (any_of HT_.out (by kernel_rfl)) (fun _ _ _ h=>h) (Or.inl ⟨by rfl,?_⟩) ?_ ?_
              rotate_left
              ·intro w'
               go_simp
               with_reducible rfl
              rotate_left
              ·simp only [Act.put,List.setIfInBounds_toArray,List.set_cons_zero,List.set_cons_succ,i64_w,i32_w]
               rfl
              refine pure_ (i:=4) (N:=some 48) (v:=?_) (a':=?_) #[true,false,false,false,true,false,false,false,false,false,false,false,false,false,false,false] rfl rfl (any_of HT_.out (by kernel_rfl)) (fun _ _ _ h=>h) (Or.inl ⟨by rfl,?_⟩) ?_ ?_
              rotate_left
              ·intro w'
               go_simp
               with_reducible rfl
              rotate_left
              ·simp only [Act.put,List.setIfInBounds_toArray,List.set_cons_zero,List.set_cons_succ,i64_w,i32_w]
               rfl
              refine pure_ (i:=5) (N:=some 49) (v:=?_) (a':=?_) #[true,false,false,false,true,true,false,false,false,false,false,false,false,false,false,false] rfl rfl (any_of HT_.out (by kernel_rfl)) (fun _ _ _ h=>h) (Or.inl ⟨by rfl,?_⟩) ?_ ?_
              rotate_left
              ·intro w'
               go_simp
               with_reducible rfl
              rotate_left
              ·simp only [Act.put,List.setIfInBounds_toArray,List.set_cons_zero,List.set_cons_succ,i64_w,i32_w]
               rfl
              refine pure_ (i:=6) (N:=some 50) (v:=?_) (a':=?_) #[true,false,false,false,true,true,true,false,false,false,false,false,false,false,false,false] rfl rfl (any_of HT_.out (by kernel_rfl)) (fun _ _ _ h=>h) (Or.inl ⟨by rfl,?_⟩) ?_ ?_
              rotate_left
              ·intro w'
               go_simp
               with_reducible rfl
              rotate_left
              ·simp only [Act.put,List.setIfInBounds_toArray,List.set_cons_zero,List.set_cons_succ,i64_w,i32_w]
               rfl
              refine pure_ (i:=7) (N:=some 51) (v:=?_) (a':=?_) #[true,false,false,false,true,true,true,true,false,false,false,false,false,false,false,false] rfl rfl (any_of HT_.out (by kernel_rfl)) (fun _ _ _ h=>h) (Or.inl ⟨by rfl,?_⟩) ?_ ?_
              rotate_left
              ·intro w'
               go_simp
               with_reducible rfl
              rotate_left
              ·simp only [Act.put,List.setIfInBounds_toArray,List.set_cons_zero,List.set_cons_succ,i64_w,i32_w]
               rfl
              refine pure_ (i:=8) (N:=some 52) (v:=?_) (a':=?_) #[true,false,false,false,true,true,true,true,true,false,false,false,false,false,false,false] rfl rfl (any_of HT_.out (by kernel_rfl)) (fun _ _ _ h=>h) (Or.inl ⟨by rfl,?_⟩) ?_ ?_
              rotate_left
              ·intro w'
               go_simp
               with_reducible rfl
              rotate_left
              ·simp only [Act.put,List.setIfInBounds_toArray,List.set_cons_zero,List.set_cons_succ,i64_w,i32_w]
               rfl
              refine pure_ (i:=9) (N:=some 53) (v:=?_) (a':=?_) #[true,false,false,false,true,true,true,true,true,true,false,false,false,false,false,false] rfl rfl (any_of HT_.out (by kernel_rfl)) (fun _ _ _ h=>h) (Or.inl ⟨by rfl,?_⟩) ?_ ?_
              rotate_left
              ·intro w'
               go_simp
               with_reducible rfl
              rotate_left
              ·simp only [Act.put,List.setIfInBounds_toArray,List.set_cons_zero,List.set_cons_succ,i64_w,i32_w]
               rfl
              refine pure_ (i:=10) (N:=some 54) (v:=?_) (a':=?_) #[true,false,false,false,true,true,true,true,true,true,true,false,false,false,false,false] rfl rfl (any_of HT_.out (by kernel_rfl)) (fun _ _ _ h=>h) (Or.inl ⟨by rfl,?_⟩) ?_ ?_
              rotate_left
              ·intro w'
               go_simp
               with_reducible rfl
              rotate_left
              ·simp only [Act.put,List.setIfInBounds_toArray,List.set_cons_zero,List.set_cons_succ,i64_w,i32_w]
               rfl
              refine take_ (i:=1) (N:=some 45) (v:=?_) (a':=?_) #[true,true,false,false,true,true,true,true,true,true,true,false,false,false,false,false] rfl rfl (take_ofW HT_.out HW_.out (by kernel_rfl)) (fun _ _ _ h=>h) (Or.inl ⟨by rfl,?_⟩) hHeld ?_ ?_
              rotate_left
              ·rintro w' ⟨s0,s1⟩
               go_simp
               with_reducible rfl
              rotate_left
              ·simp only [Act.put,List.setIfInBounds_toArray,List.set_cons_zero,List.set_cons_succ,i64_w,i32_w]
               rfl
              refine take_ (i:=2) (N:=some 46) (v:=?_) (a':=?_) #[true,true,true,false,true,true,true,true,true,true,true,false,false,false,false,false] rfl rfl (take_ofW HT_.out HW_.out (by kernel_rfl)) (fun _ _ _ h=>h) (Or.inl ⟨by rfl,?_⟩) hHeld ?_ ?_
              rotate_left
              ·rintro w' ⟨s0,s1⟩
               go_simp
               with_reducible rfl
              rotate_left
              ·simp only [Act.put,List.setIfInBounds_toArray,List.set_cons_zero,List.set_cons_succ,i64_w,i32_w]
               rfl
              refine one_ (i:=3) (N:=some 47) #[true,true,true,true,true,true,true,true,true,true,true,false,false,false,false,false] rfl rfl (one_of HT_.out (by kernel_rfl)) (by decide) (fun K hK=>?_)
              refine goes_ Try.func44 (by kernel_rfl) rfl #[.agg #[.slice Ao29 t305.length co29,.slice Ao57 x312001_2.length co57]] (by rfl) rfl rfl (by (try simp only [List.map_toArray,List.map_cons,List.map_nil]);first|done|rfl|(simp only [List.length_drop,List.length_take];rfl)) ?_
              with_reducible refine (impl_Disk_size.calls _ _ t305 _ _ x312001_2 t313 _ ?side1 ?side2 ?side3 ?side4 A47.out).mono ?_
              (case side1=>repeat (first|exact (Kd.R_reads' HO_312000.out).2.2|(with_reducible refine Kd.C_alloc ?_ _)|(with_reducible refine Kd.C_drewN ?_ _)|(with_reducible refine Kd.C_drew ?_)))
              (case side2=>exact (Kd.R_reads' HO_312000.out).2.1)
              (case side3=>repeat (first|exact (Kd.R_reads' HO_312001.out).2.2|(with_reducible refine Kd.C_alloc ?_ _)|(with_reducible refine Kd.C_drewN ?_ _)|(with_reducible refine Kd.C_drew ?_)))
              (case side4=>exact (Kd.R_reads' HO_312001.out).2.1)
              rintro e w60 ⟨rfl,hb⟩
              refine ⟨_,rfl,?_⟩
              have n0_:=Aside0.mk (Kd.R_below (by (with_reducible repeat (first|apply Kd.R_alloc|apply Kd.R_drewN|apply Kd.R_drew));exact HO_312000.out) hb)
              have n1_:=Aside0.mk (Kd.R_below (by (with_reducible repeat (first|apply Kd.R_alloc|apply Kd.R_drewN|apply Kd.R_drew));exact HO_312001.out) hb)
              have n2_:=Aside0.mk (blk_below (g:=gb297) (o:=.cells #[.slice A0_0 l0_0.length c0_0,.slice A0_1 l0_1.length c0_1] 34 (0,0)) (by (with_reducible repeat (first|refine blk_drewN ?_ _|refine blk_drew ?_|refine blk_alloc ?_ _));exact BK297.out) hb)
              have n3_:=Aside0.mk (blk_below (g:=gb298) (o:=.cells #[.slice none 0 0,.slice none 0 0] 34 (0,0)) (by (with_reducible repeat (first|refine blk_drewN ?_ _|refine blk_drew ?_|refine blk_alloc ?_ _));exact BK298.out) hb)
              have n4_:=Aside0.mk (blk_below (g:=gb311) (o:=.cells #[.slice Ao29 t305.length co29,.slice Ao57 x312001_2.length co57] 34 (0,0)) (by (with_reducible repeat (first|refine blk_drewN ?_ _|refine blk_drew ?_|refine blk_alloc ?_ _));exact BK311.out) hb)
              have n5_:=Aside0.mk (below_step (by repeat (first|(with_reducible first|exact HB.out|apply below_alloc|apply pw_below_drewN|apply below_drew1|refine below_set ?_ GE297.out|refine below_set ?_ GE298.out|refine below_set ?_ GE311.out)|exact HB.out)) hb)
              clear HO_312000
              clear HO_312001
              clear BK297
              clear BK298
              clear BK311
              clear HB
              have HO_312000:=n0_
              have HO_312001:=n1_
              have BK297:=n2_
              have BK298:=n3_
              have BK311:=n4_
              have HB:=n5_
              clear n0_ n1_ n2_ n3_ n4_ n5_
              (try clear hb)
              (try clear hb2)
              (try clear hk)
              (try clear hi)
              refine hK.out _ _ ⟨(blk_cell BK311.out 0).trans rfl,(blk_cell BK311.out 1).trans rfl⟩ (fun hHeld=>?_)
              clear hK K
              refine norm_ (a':=?_) ?_ ?_
              rotate_left
              ·show Act.put _ (some 47) _ = _
               simp only [Act.put,List.setIfInBounds_toArray,List.set_cons_zero,List.set_cons_succ,i64_w,i32_w]
               rfl
              refine one_ (i:=11) (N:=some 55) #[true,true,true,true,true,true,true,true,true,true,true,true,false,false,false,false] rfl rfl (one_of HT_.out (by kernel_rfl)) (by decide) (fun K hK=>?_)
              refine goes_ Try.func32 (by kernel_rfl) rfl #[.int .i64 t313,.bool ((ji37) == (x1_2.size:Int)),.string (x1_2.extract 0 ((ji37):Int).toNat)] (by rfl) rfl rfl (by (try simp only [List.map_toArray,List.map_cons,List.map_nil]);first|done|(simp only [hji37];rfl)|rfl|(simp only [List.length_drop,List.length_take];rfl)) ?_
              with_reducible refine (impl_sector.calls kj33 t313 ((ji37) == (x1_2.size:Int)) (x1_2.extract 0 ((ji37):Int).toNat) t314 _ A50.out).mono ?_
              rintro e w61 ⟨rfl,hb⟩
              refine ⟨_,rfl,?_⟩
              have n0_:=Aside0.mk (Kd.R_below (by (with_reducible repeat (first|apply Kd.R_alloc|apply Kd.R_drewN|apply Kd.R_drew));exact HO_312000.out) hb)
              have n1_:=Aside0.mk (Kd.R_below (by (with_reducible repeat (first|apply Kd.R_alloc|apply Kd.R_drewN|apply Kd.R_drew));exact HO_312001.out) hb)
              have n2_:=Aside0.mk (blk_below (g:=gb297) (o:=.cells #[.slice A0_0 l0_0.length c0_0,.slice A0_1 l0_1.length c0_1] 34 (0,0)) (by (with_reducible repeat (first|refine blk_drewN ?_ _|refine blk_drew ?_|refine blk_alloc ?_ _));exact BK297.out) hb)
              have n3_:=Aside0.mk (blk_below (g:=gb298) (o:=.cells #[.slice none 0 0,.slice none 0 0] 34 (0,0)) (by (with_reducible repeat (first|refine blk_drewN ?_ _|refine blk_drew ?_|refine blk_alloc ?_ _));exact BK298.out) hb)
              have n4_:=Aside0.mk (blk_below (g:=gb311) (o:=.cells #[.slice Ao29 t305.length co29,.slice Ao57 x312001_2.length co57] 34 (0,0)) (by (with_reducible repeat (first|refine blk_drewN ?_ _|refine blk_drew ?_|refine blk_alloc ?_ _));exact BK311.out) hb)
              have n5_:=Aside0.mk (below_step (by repeat (first|(with_reducible first|exact HB.out|apply below_alloc|apply pw_below_drewN|apply below_drew1|refine below_set ?_ GE297.out|refine below_set ?_ GE298.out|refine below_set ?_ GE311.out)|exact HB.out)) hb)
              clear HO_312000
              clear HO_312001
              clear BK297
              clear BK298
              clear BK311
              clear HB
              have HO_312000:=n0_
              have HO_312001:=n1_
              have BK297:=n2_
              have BK298:=n3_
              have BK311:=n4_
              have HB:=n5_
              clear n0_ n1_ n2_ n3_ n4_ n5_
              (try clear hb)
              (try clear hb2)
              (try clear hk)
              (try clear hi)
              refine hK.out _ _ ⟨(blk_cell BK311.out 0).trans rfl,(blk_cell BK311.out 1).trans rfl⟩ (fun hHeld=>?_)
              clear hK K
              refine norm_ (a':=?_) ?_ ?_
              rotate_left
              ·show Act.put _ (some 55) _ = _
               simp only [Act.put,List.setIfInBounds_toArray,List.set_cons_zero,List.set_cons_succ,i64_w,i32_w]
               rfl
              refine one_ (i:=12) (N:=some 56) #[true,true,true,true,true,true,true,true,true,true,true,true,true,false,false,false] rfl rfl (one_of HT_.out (by kernel_rfl)) (by decide) (fun K hK=>?_)
              refine value_ (w1:=?_) (v:=?_) (by rfl) rfl ?_ ?_
              rotate_left 2
              ·go_simp
               constructor
               ·rfl
               ·rfl
              refine hK.out _ _ ⟨(blk_cell (blk_alloc BK311.out _) 0).trans rfl,(blk_cell (blk_alloc BK311.out _) 1).trans rfl⟩ (fun hHeld=>?_)
              clear hK K
              refine norm_ (a':=?_) ?_ ?_
              rotate_left
              ·show Act.put _ (some 56) _ = _
               simp only [Act.put,List.setIfInBounds_toArray,List.set_cons_zero,List.set_cons_succ,i64_w,i32_w]
               rfl
              refine one_ (i:=13) (N:=some 57) #[true,true,true,true,true,true,true,true,true,true,true,true,true,true,false,false] rfl rfl (one_of HT_.out (by kernel_rfl)) (by decide) (fun K hK=>?_)
              refine Kd.R_append_step Kd.string (w0:=w) w.heap.size (by rfl) (.tmp 45) (.tmp 56) 28 9 (.string ⟨#[]⟩) 16 rfl Try.underlying28 info9 rfl (by decide) (by first|decide|omega) (.slice Ao57 x312001_2.length co57) x312001_2 t314 [.string t314] (fun k_=>some k_ ≠ (.slice Ao29 t305.length co29:Value).ownBlock) (fun _=>False) rfl rfl ?aP (fun _ hk=>hk.elim) ?aF ?aO ?aB ?aS ?aL ?_
              (case aP=>exact rfl)
              (case aB=>exact (by repeat (first|(with_reducible first|exact HB.out|apply below_alloc|apply pw_below_drewN|apply below_drew1|refine below_set ?_ GE297.out|refine below_set ?_ GE298.out|refine below_set ?_ GE311.out)|exact HB.out)))
              (case aF=>exact (fun k_ hk=>Kd.fresh' (Kd.R_lt (by (with_reducible repeat (first|apply Kd.R_alloc|apply Kd.R_drewN|apply Kd.R_drew));exact HO_312000.out)) k_ hk))
              (case aO=>exact (by (with_reducible repeat (first|apply Kd.R_alloc|apply Kd.R_drewN|apply Kd.R_drew));exact HO_312001.out))
              (case aS=>exact (below_size (by repeat (first|(with_reducible first|exact HB.out|apply below_alloc|apply pw_below_drewN|apply below_drew1|refine below_set ?_ GE297.out|refine below_set ?_ GE298.out|refine below_set ?_ GE311.out)|exact HB.out))))
              (case aL=>have:=LMc51.out;omega)
              intro v316 w62 ho hb hg hat
              rw [← Ny315.out] at ho
              have n0_:=Aside0.mk (Kd.R_after (ok:=(fun _=>True)) (by (with_reducible repeat (first|apply Kd.R_alloc|apply Kd.R_drewN|apply Kd.R_drew));exact Kd.R_mono HO_312000.out (fun _ hk=>⟨trivial,hk⟩)) hg hat)
              have n1_:=Aside0.mk (blk_grown (g:=gb297) (o:=.cells #[.slice A0_0 l0_0.length c0_0,.slice A0_1 l0_1.length c0_1] 34 (0,0)) (by (with_reducible repeat (first|refine blk_drewN ?_ _|refine blk_drew ?_|refine blk_alloc ?_ _));exact BK297.out) hg (Kd.R_ne HO_312001.out BK297.out (by decide)))
              have n2_:=Aside0.mk (blk_grown (g:=gb298) (o:=.cells #[.slice none 0 0,.slice none 0 0] 34 (0,0)) (by (with_reducible repeat (first|refine blk_drewN ?_ _|refine blk_drew ?_|refine blk_alloc ?_ _));exact BK298.out) hg (Kd.R_ne HO_312001.out BK298.out (by decide)))
              have n3_:=Aside0.mk (blk_grown (g:=gb311) (o:=.cells #[.slice Ao29 t305.length co29,.slice Ao57 x312001_2.length co57] 34 (0,0)) (by (with_reducible repeat (first|refine blk_drewN ?_ _|refine blk_drew ?_|refine blk_alloc ?_ _));exact BK311.out) hg (Kd.R_ne HO_312001.out BK311.out (by decide)))
              have n4_:=Aside0.mk (hb)
              have n5_:=Aside0.mk (ho)
              clear HO_312000
              clear BK297
              clear BK298
              clear BK311
              clear HB
              clear HO_312001
              have HO_312000:=n0_
              have BK297:=n1_
              have BK298:=n2_
              have BK311:=n3_
              have HB:=n4_
              have HO317:=n5_
              clear n0_ n1_ n2_ n3_ n4_ n5_
              clear ho hb hg hat
              obtain ⟨Ao63,co63,eo63⟩:=Kd.R_slice HO317.out
              (first|subst eo63|(injection eo63 with f1_ f2_ f3_;have f4_:=f1_.symm;have f5_:=f3_.symm;clear f1_ f2_ f3_;subst f4_;subst f5_))
              refine hK.out _ _ ⟨(blk_cell BK311.out 0).trans rfl,(blk_cell BK311.out 1).trans rfl⟩ (fun hHeld=>?_)
              clear hK K
              refine norm_ (a':=?_) ?_ ?_
              rotate_left
              ·show Act.put _ (some 57) _ = _
               simp only [Act.put,List.setIfInBounds_toArray,List.set_cons_zero,List.set_cons_succ,i64_w,i32_w]
               rfl
              refine pure_ (i:=14) (N:=some 58) (v:=?_) (a':=?_) #[true,true,true,true,true,true,true,true,true,true,true,true,true,true,true,false] rfl rfl (any_of HT_.out (by kernel_rfl)) (fun _ _ _ h=>h) (Or.inl ⟨by rfl,?_⟩) ?_ ?_
              rotate_left
              ·intro w'
               go_simp
               with_reducible rfl
              rotate_left
              ·simp only [Act.put,List.setIfInBounds_toArray,List.set_cons_zero,List.set_cons_succ,i64_w,i32_w]
               rfl
              refine last_ (i:=15) (N:=none) #[true,true,true,true,true,true,true,true,true,true,true,true,true,true,true,true] rfl rfl (one_of HT_.out (by kernel_rfl)) (by decide) (fun K hK=>?_)
              have hs64:w62.cell? ⟨gb311,1,none⟩ = some (.slice Ao57 x312001_2.length co57):=(blk_cell BK311.out 1).trans rfl
              have hfs64:=blk_frozen BK311.out 1
              have hns64_0:=NB297_311.out
              have hns64_1:=NB298_311.out
              have hms64_0:=NB311_297.out
              have hms64_1:=NB311_298.out
              refine skip_ (w1:=?_) (by rfl) rfl ?_ ?_
              rotate_left
              ·go_simp
               rfl
              refine hK.out _ _ ?_
              clear hK K
              refine done_ (done_of HT_.out (by kernel_rfl)) ?_
              try go_wp2
              go_roundg kj33
              case measure=>have:=HJ2.out;have:=HK2.out;have:=HJ33.out;omega
              case rel=>exact ⟨(x1_2.extract ((ji37):Int).toNat x1_2.size),(false),(y315),(.slice Ao63 y315.length co63),(by first|rfl|(simp;done)|(simp only [← hji37] <;> (first|rfl|simp))|(simp [*];done)),(by first|rfl|(simp;done)|(simp [*];done)),H',⟨by have:=HJ2.out;have:=HK2.out;have:=HJ33.out;omega⟩,⟨by (with_reducible repeat (first|apply Kd.R_alloc|apply Kd.R_drewN|apply Kd.R_drew));exact Kd.R_mono (Kd.R_far (p:=⟨gb311,1,none⟩) (Kd.R_types HO_312000.out BK311.out (by decide)) (fun _ hk=>hk.2) (.slice Ao63 y315.length co63)) (fun _ hk=>hk.1.2)⟩,⟨by (with_reducible repeat (first|apply Kd.R_alloc|apply Kd.R_drewN|apply Kd.R_drew));exact Kd.R_mono (Kd.R_far (p:=⟨gb311,1,none⟩) (Kd.R_types HO317.out BK311.out (by decide)) (fun _ hk=>hk.2) (.slice Ao63 y315.length co63)) (fun _ hk=>hk.1)⟩,⟨by (with_reducible repeat (first|refine blk_drewN ?_ _|refine blk_drew ?_|refine blk_alloc ?_ _));refine blk_far ?_ NB297_311.out _;(with_reducible repeat (first|refine blk_drewN ?_ _|refine blk_drew ?_|refine blk_alloc ?_ _));exact BK297.out⟩,⟨by (with_reducible repeat (first|refine blk_drewN ?_ _|refine blk_drew ?_|refine blk_alloc ?_ _));refine blk_far ?_ NB298_311.out _;(with_reducible repeat (first|refine blk_drewN ?_ _|refine blk_drew ?_|refine blk_alloc ?_ _));exact BK298.out⟩,⟨by (with_reducible repeat (first|refine blk_drewN ?_ _|refine blk_drew ?_|refine blk_alloc ?_ _));refine blk_put (cs:=#[.slice Ao29 t305.length co29,.slice Ao57 x312001_2.length co57]) ?_ 1 _ rfl;(with_reducible repeat (first|refine blk_drewN ?_ _|refine blk_drew ?_|refine blk_alloc ?_ _));exact BK311.out⟩,⟨by repeat (first|(with_reducible first|exact HB.out|apply below_alloc|apply pw_below_drewN|apply below_drew1|refine below_set ?_ GE297.out|refine below_set ?_ GE298.out|refine below_set ?_ GE311.out)|exact HB.out)⟩⟩
             ·rw [if_neg c51] at H
              exact absurd H (by simp)
            ·rw [if_neg c49] at H
             exact absurd H (by simp)
           ·rw [if_neg c48] at H
            exact absurd H (by simp)
         ·replace c36:=Bool.eq_false_iff.mpr c36
          subst c36
          have H1:(some (t305,x312001_2,true)) = some (r1,r2,r3):=by rw [if_neg (show ¬ (false = true) by decide)] at H;exact H
          clear H
          have H:=H1
          clear H1
          simp only [Option.some.injEq,Prod.mk.injEq] at H
          obtain ⟨rfl,rfl,rfl⟩:=H
          have hnb65:=NB311_297.out
          have hnc65:=NB297_311.out
          have hnb66:=NB311_298.out
          have hnc66:=NB298_311.out
          have hcz67_0:wc.cell? ⟨gb311,0,none⟩ = some (.slice Ao29 t305.length co29):=(blk_cell BK311.out 0).trans rfl
          have hcz67_1:wc.cell? ⟨gb311,1,none⟩ = some (u312001):=(blk_cell BK311.out 1).trans rfl
          have hfz67_0:=blk_frozen BK311.out 0
          have hfz67_1:=blk_frozen BK311.out 1
          have hnb68:=NB298_297.out
          have hnc68:=NB297_298.out
          have hcz69_0:wc.cell? ⟨gb298,0,none⟩ = some (.slice none 0 0):=(blk_cell BK298.out 0).trans rfl
          have hcz69_1:wc.cell? ⟨gb298,1,none⟩ = some (.slice none 0 0):=(blk_cell BK298.out 1).trans rfl
          have hfz69_0:=blk_frozen BK298.out 0
          have hfz69_1:=blk_frozen BK298.out 1
          obtain ⟨Ao70,co70,eo70⟩:=Kd.R_slice HO_312001.out
          subst eo70
          go_wp2
          refine bodyPost_ret (results_ct rfl _ _ gb298 34 #[.slice Ao29 t305.length co29,.slice Ao70 x312001_2.length co70] (0,0) _ rfl (by (with_reducible repeat (first|refine blk_drewN ?_ _|refine blk_drew ?_|refine blk_alloc ?_ _));refine blk_put (cs:=#[.slice Ao29 t305.length co29,.slice none 0 0]) ?_ 1 _ rfl;(with_reducible repeat (first|refine blk_drewN ?_ _|refine blk_drew ?_|refine blk_alloc ?_ _));refine blk_put (cs:=#[.slice none 0 0,.slice none 0 0]) ?_ 0 _ rfl;(with_reducible repeat (first|refine blk_drewN ?_ _|refine blk_drew ?_|refine blk_alloc ?_ _));exact BK298.out) Try.underlying34 rfl (by kernel_rfl)) rfl ?_
          exact ⟨_,_,by first|rfl|(simp [errW_none,errW_some] <;> rfl)|(simp [*,errW_none,errW_some] <;> rfl),by (with_reducible repeat (first|apply Kd.R_alloc|apply Kd.R_drewN|apply Kd.R_drew));exact Kd.R_mono (Kd.R_far (p:=⟨gb298,1,none⟩) (Kd.R_far (p:=⟨gb298,0,none⟩) (Kd.R_types HO_312000.out BK298.out (by decide)) (fun _ hk=>hk.2) (.slice Ao29 t305.length co29)) (fun _ hk=>hk.2) (.slice Ao70 x312001_2.length co70)) (fun _ hk=>hk.1),by (with_reducible repeat (first|apply Kd.R_alloc|apply Kd.R_drewN|apply Kd.R_drew));exact Kd.R_mono (Kd.R_far (p:=⟨gb298,1,none⟩) (Kd.R_far (p:=⟨gb298,0,none⟩) (Kd.R_types HO_312001.out BK298.out (by decide)) (fun _ hk=>hk.2) (.slice Ao29 t305.length co29)) (fun _ hk=>hk.2) (.slice Ao70 x312001_2.length co70)) (fun _ hk=>hk.1),by repeat (first|(with_reducible first|exact HB.out|apply below_alloc|apply pw_below_drewN|apply below_drew1|refine below_set ?_ GE297.out|refine below_set ?_ GE298.out|refine below_set ?_ GE311.out)|exact HB.out)⟩
    ·rw [if_neg c19] at H
     have c19b0:(t303 == t304) = false:=beq_eq_false_iff_ne.mpr c19
     have c19b1:(t303 != t304) = true:=bne_iff_ne.mpr c19
     simp only [Option.some.injEq,Prod.mk.injEq] at H
     obtain ⟨rfl,rfl,rfl⟩:=H
     have hnb71:=NB297_298.out
     have hnc71:=NB298_297.out
     have hcz72_0:wc.cell? ⟨gb297,0,none⟩ = some (.slice A0_0 l0_0.length c0_0):=(blk_cell BK297.out 0).trans rfl
     have hcz72_1:wc.cell? ⟨gb297,1,none⟩ = some (.slice A0_1 l0_1.length c0_1):=(blk_cell BK297.out 1).trans rfl
     have hfz72_0:=blk_frozen BK297.out 0
     have hfz72_1:=blk_frozen BK297.out 1
     go_wp2_with (first|((with_reducible refine gate_callee (f:=39) rfl ?_);refine goesL_ (some 22) rfl rfl Try.func39 (by kernel_rfl) rfl #[.agg #[.slice A0_0 l0_0.length c0_0,.slice A0_1 l0_1.length c0_1]] rfl (by (try simp only [List.map_toArray,List.map_cons,List.map_nil]);first|done|rfl|(simp only [List.length_drop,List.length_take];rfl)) ?_;(with_reducible refine (impl_Disk_texts.calls kj2 (fun k_=>k_ < w.heap.size) _ _ l0_0 (fun k_=>k_ < w.heap.size) _ _ l0_1 t300 t303 _ ?side1 ?side2 A17.out).mono ?_);(case side1=>exact Kd.V_mk HC0_0.out (Kd.F_below (Kd.C_F Kd.heap_string HR0_0.out) (by repeat (first|(with_reducible first|exact HB.out|apply below_alloc|apply pw_below_drewN|apply below_drew1|refine below_set ?_ GE297.out|refine below_set ?_ GE298.out)|exact HB.out))));(case side2=>exact Kd.V_mk HC0_1.out (Kd.F_below (Kd.C_F Kd.heap_string HR0_1.out) (by repeat (first|(with_reducible first|exact HB.out|apply below_alloc|apply pw_below_drewN|apply below_drew1|refine below_set ?_ GE297.out|refine below_set ?_ GE298.out)|exact HB.out))));rintro e w73 ⟨v301,rfl,ho0,hb⟩;refine ⟨_,rfl,?_⟩;have n0_:=Aside0.mk (Kd.R_lower (Kd.R_mono (ok':=fun k_=>True) ho0 (fun _ hk_=>trivial)) (below_size (by repeat (first|(with_reducible first|exact HB.out|apply below_alloc|apply pw_below_drewN|apply below_drew1|refine below_set ?_ GE297.out|refine below_set ?_ GE298.out)|exact HB.out))));have n1_:=Aside0.mk (blk_below (g:=gb297) (o:=.cells #[.slice A0_0 l0_0.length c0_0,.slice A0_1 l0_1.length c0_1] 34 (0,0)) (by (with_reducible repeat (first|refine blk_drewN ?_ _|refine blk_drew ?_|refine blk_alloc ?_ _));exact BK297.out) hb);have n2_:=Aside0.mk (blk_below (g:=gb298) (o:=.cells #[.slice none 0 0,.slice none 0 0] 34 (0,0)) (by (with_reducible repeat (first|refine blk_drewN ?_ _|refine blk_drew ?_|refine blk_alloc ?_ _));exact BK298.out) hb);have n3_:=Aside0.mk (below_step (by repeat (first|(with_reducible first|exact HB.out|apply below_alloc|apply pw_below_drewN|apply below_drew1|refine below_set ?_ GE297.out|refine below_set ?_ GE298.out)|exact HB.out)) hb);clear BK297;clear BK298;clear HB;have HO302:=n0_;have BK297:=n1_;have BK298:=n2_;have HB:=n3_;clear n0_ n1_ n2_ n3_;(try clear hb);(try clear hb2);(try clear hk);(try clear hi);(try clear ho0);have hcz74_0:w73.cell? ⟨gb297,0,none⟩ = some (.slice A0_0 l0_0.length c0_0):=(blk_cell BK297.out 0).trans rfl;have hcz74_1:w73.cell? ⟨gb297,1,none⟩ = some (.slice A0_1 l0_1.length c0_1):=(blk_cell BK297.out 1).trans rfl;have hfz74_0:=blk_frozen BK297.out 0;have hfz74_1:=blk_frozen BK297.out 1)|((with_reducible refine gate_callee (f:=44) rfl ?_);refine goesL_ (some 27) rfl rfl Try.func44 (by kernel_rfl) rfl #[.agg #[.slice A0_0 l0_0.length c0_0,.slice A0_1 l0_1.length c0_1]] rfl (by (try simp only [List.map_toArray,List.map_cons,List.map_nil]);first|done|rfl|(simp only [List.length_drop,List.length_take];rfl)) ?_;(with_reducible refine (impl_Disk_size.calls _ _ l0_0 _ _ l0_1 t304 _ ?side1 ?side2 ?side3 ?side4 A18.out).mono ?_);(case side1=>repeat (first|exact (Kd.C_below HR0_0.out HB.out)|(with_reducible refine Kd.C_alloc ?_ _)|(with_reducible refine Kd.C_drewN ?_ _)|(with_reducible refine Kd.C_drew ?_)));(case side2=>exact HC0_0.out);(case side3=>repeat (first|exact (Kd.C_below HR0_1.out HB.out)|(with_reducible refine Kd.C_alloc ?_ _)|(with_reducible refine Kd.C_drewN ?_ _)|(with_reducible refine Kd.C_drew ?_)));(case side4=>exact HC0_1.out);rintro e w75 ⟨rfl,hb⟩;refine ⟨_,rfl,?_⟩;have n0_:=Aside0.mk (Kd.R_below (by (with_reducible repeat (first|apply Kd.R_alloc|apply Kd.R_drewN|apply Kd.R_drew));exact HO302.out) hb);have n1_:=Aside0.mk (blk_below (g:=gb297) (o:=.cells #[.slice A0_0 l0_0.length c0_0,.slice A0_1 l0_1.length c0_1] 34 (0,0)) (by (with_reducible repeat (first|refine blk_drewN ?_ _|refine blk_drew ?_|refine blk_alloc ?_ _));exact BK297.out) hb);have n2_:=Aside0.mk (blk_below (g:=gb298) (o:=.cells #[.slice none 0 0,.slice none 0 0] 34 (0,0)) (by (with_reducible repeat (first|refine blk_drewN ?_ _|refine blk_drew ?_|refine blk_alloc ?_ _));exact BK298.out) hb);have n3_:=Aside0.mk (below_step (by repeat (first|(with_reducible first|exact HB.out|apply below_alloc|apply pw_below_drewN|apply below_drew1|refine below_set ?_ GE297.out|refine below_set ?_ GE298.out)|exact HB.out)) hb);clear HO302;clear BK297;clear BK298;clear HB;have HO302:=n0_;have BK297:=n1_;have BK298:=n2_;have HB:=n3_;clear n0_ n1_ n2_ n3_;(try clear hb);(try clear hb2);(try clear hk);(try clear hi);have hcz76_0:w75.cell? ⟨gb298,0,none⟩ = some (.slice none 0 0):=(blk_cell BK298.out 0).trans rfl;have hcz76_1:w75.cell? ⟨gb298,1,none⟩ = some (.slice none 0 0):=(blk_cell BK298.out 1).trans rfl;have hfz76_0:=blk_frozen BK298.out 0;have hfz76_1:=blk_frozen BK298.out 1))
     refine bodyPost_ret (results_ct rfl _ _ gb298 34 #[.slice none 0 0,.slice none 0 0] (0,0) _ rfl (by (with_reducible repeat (first|refine blk_drewN ?_ _|refine blk_drew ?_|refine blk_alloc ?_ _));refine blk_put (cs:=#[.slice none 0 0,.slice none 0 0]) ?_ 1 _ rfl;(with_reducible repeat (first|refine blk_drewN ?_ _|refine blk_drew ?_|refine blk_alloc ?_ _));refine blk_put (cs:=#[.slice none 0 0,.slice none 0 0]) ?_ 0 _ rfl;(with_reducible repeat (first|refine blk_drewN ?_ _|refine blk_drew ?_|refine blk_alloc ?_ _));exact BK298.out) Try.underlying34 rfl (by kernel_rfl)) rfl ?_
     exact ⟨_,_,by first|rfl|(simp [errW_none,errW_some] <;> rfl)|(simp [*,errW_none,errW_some] <;> rfl),by first|exact Kd.R_nil _ _ _ _ _|exact Kd.N_nil _ _ _ _ _|exact Kd.V_nil _ _ _ _ _|exact Kd.Q_nil _ _ _ _ _|exact Kd.S_nil _ _ _ _ _,by first|exact Kd.R_nil _ _ _ _ _|exact Kd.N_nil _ _ _ _ _|exact Kd.V_nil _ _ _ _ _|exact Kd.Q_nil _ _ _ _ _|exact Kd.S_nil _ _ _ _ _,by repeat (first|(with_reducible first|exact HB.out|apply below_alloc|apply pw_below_drewN|apply below_drew1|refine below_set ?_ GE297.out|refine below_set ?_ GE298.out)|exact HB.out)⟩

end Go.Proofs.Ytamiedpgahpihaa.QFnExactPutText
