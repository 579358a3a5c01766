-- Written by this session's own program (wip/x/xprint.py, over the kit's printer); Lean checks it.
import Derived.Test.YtmgkflkfoccgkaaQFnPutForx0
import Derived.Test.YtmgkflkfoccgkaaQFnPutForx11
import Derived.Test.YtmgkflkfoccgkaaQFnPutForx12
import Derived.Test.YtmgkflkfoccgkaaQFnPutForx16
namespace Go.Proofs.Ytmgkflkfoccgkaa.QFnPutFor
open Go.RowKit Go.Proofs.YtmgkflkfoccgkaaW.PrintWords Go.Proofs.YtmgkflkfoccgkaaW.PrintLast Go.Proofs.YtmgkflkfoccgkaaW.PrintMore
attribute [local go_sem] max2_int min2_int max_two min_two max_three min_three max_four min_four   -- for this text's walks alone
set_option linter.unusedVariables false
set_option linter.unusedSimpArgs false

/-! ### spec_l5At: function 53 -/
def spec_l5At.l0:Nat → List Int → List (S83) → Int → Int → List Int → Int → List (List Int) → Option (Bool)
 | 0,_,_,_,_,_,_,_=>none
 | k + 1,x3,x11,x12,x13,x548000,x549000,x549001=>if x13 < x12 then (if 0 ≤ x13 then (if x13 < (x11.length:Int) then ((spec_l5Eval.f k x548000 x549000 x549001 ((rd_T83 x11 x13).f1) 0 x3).bind fun t551=>((spec_l5Eval.f k x548000 x549000 x549001 ((rd_T83 x11 x13).f2) 0 x3).bind fun t552=>(if ((t551 == t552) == ((rd_T83 x11 x13).f0)) = true then (some true) else (spec_l5At.l0 k x3 x11 x12 (wrap64 (x13 + 1)) x548000 x549000 x549001)))) else (none)) else (none)) else (some false)
def spec_l5At.f (k:Nat) (l0_0:List Int) (a1_0:Int) (l1_1:List (List Int)) (l2:List (S83)) (l3:List Int):Option (Bool):=spec_l5At.l0 k l3 l2 (l2.length:Int) 0 l0_0 a1_0 l1_1
theorem spec_l5At.mono_l:∀ k,(∀ y0 y1 y2 y3 y4 y5 y6,LeO (spec_l5At.l0 k y0 y1 y2 y3 y4 y5 y6) (spec_l5At.l0 (k + 1) y0 y1 y2 y3 y4 y5 y6))
 | 0=>fun _ _ _ _ _ _ _ r h=>by simp [spec_l5At.l0] at h
 | k + 1=>by
  have ih0:=spec_l5At.mono_l k
  ·intro y0 y1 y2 y3 y4 y5 y6
   unfold spec_l5At.l0
   have m0:=@spec_l5Eval.mono
   exact mO
theorem spec_l5At.mono:∀ a0 a1 a2 a3 a4 k,LeO (spec_l5At.f k a0 a1 a2 a3 a4) (spec_l5At.f (k + 1) a0 a1 a2 a3 a4):=by
 intro a0 a1 a2 a3 a4 k
 have ih0:=spec_l5At.mono_l k
 unfold spec_l5At.f
 have m0:=@spec_l5Eval.mono
 exact mO
def spec_l5At.T4:Bool × List (List Nat × List Nat):=(true,[([],[]),([],[]),([],[]),([2],[2]),([],[]),([0,1,3,4],[0,1,3,4]),([],[]),([],[]),([],[]),([8],[8]),([],[]),([6,7,9,10,5],[6,7,9,10]),([5,11],[5,11]),([],[]),([13],[13]),([12,14],[12,14])])
def spec_l5At.B4:List Nat:=[0,0,0,4,0,31,0,0,0,256,0,2047,4095,0,8192,32767]
theorem spec_l5At.tab4:rtab .any (opsOf Try.f53 4) = spec_l5At.T4:=by kernel_rfl
theorem spec_l5At.bits4:waitsOk spec_l5At.T4.2 spec_l5At.B4 = true:=by kernel_rfl
set_option maxHeartbeats 8000000 in
set_option maxRecDepth 100000 in
theorem spec_l5At.calls (k:Nat) (A0_0:Option Addr) (c0_0:Nat) (l0_0:List Int) (a1_0:Int) (A1_1:Option Addr) (c1_1:Nat) (l1_1:List (List Int)) (A2:Option Addr) (c2:Nat) (l2:List (S83)) (A3:Option Addr) (c3:Nat) (l3:List Int) (r:Bool) (w:World) (hr0_0:Kd.C (Kd.int .i64) w A0_0 l0_0.length l0_0) (hc0_0:l0_0.length ≤ c0_0) (hr1_1:Kd.C (Kd.slice 3 (Kd.int .i64)) w A1_1 l1_1.length l1_1) (hc1_1:l1_1.length ≤ c1_1) (hr2:Kd.C k83 w A2 l2.length l2) (hc2:l2.length ≤ c2) (hr3:Kd.C (Kd.int .i64) w A3 l3.length l3) (hc3:l3.length ≤ c3) (h:spec_l5At.f k l0_0 a1_0 l1_1 l2 l3 = some r) :
  Calls Try.prog 53 #[.agg #[.slice A0_0 l0_0.length c0_0],.agg #[.int .i64 a1_0,.slice A1_1 l1_1.length c1_1],.slice A2 l2.length c2,.slice A3 l3.length c3] w fun e w'=>e = .returned (.bool r) ∧ Below w.heap.size w w':=by
 have hu26:=Try.underlying26
 have hu31:=Try.underlying31
 have hu83:=Try.underlying83
 have HR0_0:=Aside0.mk hr0_0
 have HC0_0:=Aside0.mk hc0_0
 clear hr0_0 hc0_0
 have HR1_1:=Aside0.mk hr1_1
 have HC1_1:=Aside0.mk hc1_1
 clear hr1_1 hc1_1
 have HR2:=Aside0.mk hr2
 have HC2:=Aside0.mk hc2
 clear hr2 hc2
 have HR3:=Aside0.mk hr3
 have HC3:=Aside0.mk hc3
 clear hr3 hc3
 have HB:=Aside0.mk (Below.refl w.heap.size w)
 have H:(spec_l5At.l0 k l3 l2 (l2.length:Int) 0 l0_0 a1_0 l1_1) = some r:=h
 clear h
 have H':=Aside0.mk H
 clear H
 go_enter Try.func53,Try.ntmps53
 go_wp2_with (first|((with_reducible refine gate_dst (N:=4) rfl ?_);refine box_event ?hg (N:=4) ?hd (cs:=#[.slice A0_0 l0_0.length c0_0]) (t:=26) ?hr ?_;(case hd=>rfl);(case hg=>rfl);(case hr=>exact Yd);intro gb547 hg w5 hbox hb;have BK547:=Aside0.mk (hbox);have GW547:=Aside0.mk ((hZ:w.heap.size ≤ gb547));have GE547:=Aside0.mk ((hZ:w.heap.size ≤ gb547));replace HB:=Aside0.mk (below_step bH hb);clear hb hbox hg)|((with_reducible refine gate_dst (N:=5) rfl ?_);refine box_event ?hg (N:=5) ?hd (cs:=#[.int .i64 a1_0,.slice A1_1 l1_1.length c1_1]) (t:=31) ?hr ?_;(case hd=>rfl);(case hg=>rfl);(case hr=>exact Yd);intro gb548 hg w6 hbox hb;have BK548:=Aside0.mk (hbox);have GW548:=Aside0.mk ((hZ:w.heap.size ≤ gb548));have GE548:=Aside0.mk ((hZ:w.heap.size ≤ gb548));replace HB:=Aside0.mk (below_step bH hb);have NB547_548:=Aside0.mk ((nL BK547:gb547 ≠ gb548));have NB548_547:=Aside0.mk ((nG BK547:gb548 ≠ gb547));replace BK547:=Aside0.mk (blk_below (bB BK547) hb);clear hb hbox hg))
 go_loopg [13] k (fun kq v13 w'=>∃ (x13_1:Int),v13 = .int .i64 x13_1 ∧ Aside0 (spec_l5At.l0 kq l3 l2 (l2.length:Int) x13_1 l0_0 a1_0 l1_1 = some r) ∧ Aside0 (kq ≤ k) ∧ Aside0 (w'.heap[gb547]? = some (.cells #[(.slice A0_0 l0_0.length c0_0)] 26 (0,0))) ∧ Aside0 (w'.heap[gb548]? = some (.cells #[.int .i64 a1_0,(.slice A1_1 l1_1.length c1_1)] 31 (0,0))) ∧ Aside0 (Below w.heap.size w w'))
 case atStart=>exact ⟨(0),Ye,H',⟨Nat.le_refl _⟩,⟨by (with_reducible repeat (first|refine blk_drewN ?_ _|refine blk_drew ?_|refine blk_alloc ?_ _));exact BK547.out⟩,⟨by (with_reducible repeat (first|refine blk_drewN ?_ _|refine blk_drew ?_|refine blk_alloc ?_ _));exact BK548.out⟩,⟨bH⟩⟩
 case round =>
  clear H'
  try clear c1
  try clear c2
  try clear p2
  try clear c3
  try clear c5
  obtain ⟨x13_1,rfl,HA,HK1,BK547,BK548,HB⟩:=hrel
  cases gk with
  | zero=>exact absurd HA.out (by simp [spec_l5At.l0])
  | succ k1 =>
   have H:=HA.out
   clear HA
   simp only [spec_l5At.l0] at H
   by_cases c7:x13_1 < (l2.length:Int)
   ·rw [if_pos c7] at H
    have c7b0:=decide_eq_true c7
    clear c7
    by_cases c8:0 ≤ x13_1
    ·rw [if_pos c8] at H
     have c8b0:=decide_eq_true c8
     clear c8
     by_cases c9:x13_1 < (l2.length:Int)
     ·rw [if_pos c9] at H
      have c9b0:=decide_eq_true c9
      clear c9
      replace H:=Option.bind_eq_some_iff.mp H
      obtain ⟨t551,A100,H⟩:=H
      replace H:((spec_l5Eval.f k1 l0_0 a1_0 l1_1 ((rd_T83 l2 x13_1).f2) 0 l3).bind fun t552=>(if ((t551 == t552) == ((rd_T83 l2 x13_1).f0)) = true then (some true) else (spec_l5At.l0 k1 l3 l2 (l2.length:Int) (wrap64 (x13_1 + 1)) l0_0 a1_0 l1_1))) = some r:=H
      have A10:=Aside0.mk A100
      clear A100
      replace H:=Option.bind_eq_some_iff.mp H
      obtain ⟨t552,A110,H⟩:=H
      replace H:(if ((t551 == t552) == ((rd_T83 l2 x13_1).f0)) = true then (some true) else (spec_l5At.l0 k1 l3 l2 (l2.length:Int) (wrap64 (x13_1 + 1)) l0_0 a1_0 l1_1)) = some r:=H
      have A11:=Aside0.mk A110
      clear A110
      by_cases c12:((t551 == t552) == ((rd_T83 l2 x13_1).f0)) = true
      ·rw [if_pos c12] at H
       have c12b0:((t551 == t552) == ((rd_T83 l2 x13_1).f0)) = true:=c12
       (try (have c12b1:decide ((t551 == t552) = ((rd_T83 l2 x13_1).f0)) = true:=by simpa using c12))
       (try (have c12b2:((t551 == t552) == ((rd_T83 l2 x13_1).f0)) = true:=by simpa using c12))
       clear c12
       obtain rfl:=Option.some.inj H
       have p549:0 ≤ (x13_1:Int):=oD
       have q549:x13_1 < (l2.length:Int):=oD
       obtain ⟨ad549,A549_1,c549_1,A549_2,c549_2,e549,hx549_0,hx549_1,hx549_2,hl549_1,hi549_1,hl549_2,hi549_2⟩:=at_T83 HR2.out x13_1 p549 q549
       cases e549
       replace hx549_0:=(HB.out.cell (World.block_lt_of_cell? w _ hx549_0)).trans hx549_0
       replace hx549_1:=(HB.out.cell (World.block_lt_of_cell? w _ hx549_1)).trans hx549_1
       replace hx549_2:=(HB.out.cell (World.block_lt_of_cell? w _ hx549_2)).trans hx549_2
       have HR549_1:=Aside0.mk hi549_1
       have HC549_1:=Aside0.mk hl549_1
       clear hi549_1 hl549_1
       have HR549_2:=Aside0.mk hi549_2
       have HC549_2:=Aside0.mk hl549_2
       clear hi549_2 hl549_2
       replace p549:=eq_true p549
       replace q549:=eq_true q549
       try go_wp2_with (first|((with_reducible refine gate_dst (N:=10) rfl ?_);refine box_event ?hg (N:=10) ?hd (cs:=#[.bool false,.slice none 0 0,.slice none 0 0]) (t:=83) ?hr ?_;(case hd=>rfl);(case hg=>rfl);(case hr=>exact Yd);intro gb550 hg w13 hbox hb;have BK550:=Aside0.mk (hbox);have GW550:=Aside0.mk ((hZ:w.heap.size ≤ gb550));have GE550:=Aside0.mk ((hZ:w.heap.size ≤ gb550));replace HB:=Aside0.mk (below_step bH hb);have NB547_550:=Aside0.mk ((nL BK547:gb547 ≠ gb550));have NB550_547:=Aside0.mk ((nG BK547:gb550 ≠ gb547));replace BK547:=Aside0.mk (blk_below (bB BK547) hb);have NB548_550:=Aside0.mk ((nL BK548:gb548 ≠ gb550));have NB550_548:=Aside0.mk ((nG BK548:gb550 ≠ gb548));replace BK548:=Aside0.mk (blk_below (bB BK548) hb);clear hb hbox hg;have hnb14:=NB550_547.out;have hnc14:=NB547_550.out;have hnb15:=NB550_548.out;have hnc15:=NB548_550.out;have hcz16_0:w13.cell? ⟨gb550,0,none⟩ = some (.bool false):=(blk_cell BK550.out 0).trans rfl;have hcz16_1:w13.cell? ⟨gb550,1,none⟩ = some (.slice none 0 0):=(blk_cell BK550.out 1).trans rfl;have hcz16_2:w13.cell? ⟨gb550,2,none⟩ = some (.slice none 0 0):=(blk_cell BK550.out 2).trans rfl;have hfz16_0:=blk_frozen BK550.out 0;have hfz16_1:=blk_frozen BK550.out 1;have hfz16_2:=blk_frozen BK550.out 2))
       have n0_:Aside0 ((((w13.setCell ⟨gb550,0,none⟩ (.bool ((rd_T83 l2 x13_1).f0))).setCell ⟨gb550,1,none⟩ (.slice A549_1 ((rd_T83 l2 x13_1).f1).length c549_1)).setCell ⟨gb550,2,none⟩ (.slice A549_2 ((rd_T83 l2 x13_1).f2).length c549_2)).heap[gb547]? = some (.cells #[.slice A0_0 l0_0.length c0_0] 26 (0,0))):=⟨Yx⟩
       have n1_:Aside0 ((((w13.setCell ⟨gb550,0,none⟩ (.bool ((rd_T83 l2 x13_1).f0))).setCell ⟨gb550,1,none⟩ (.slice A549_1 ((rd_T83 l2 x13_1).f1).length c549_1)).setCell ⟨gb550,2,none⟩ (.slice A549_2 ((rd_T83 l2 x13_1).f2).length c549_2)).heap[gb548]? = some (.cells #[.int .i64 a1_0,.slice A1_1 l1_1.length c1_1] 31 (0,0))):=⟨Yw⟩
       have n2_:Aside0 ((((w13.setCell ⟨gb550,0,none⟩ (.bool ((rd_T83 l2 x13_1).f0))).setCell ⟨gb550,1,none⟩ (.slice A549_1 ((rd_T83 l2 x13_1).f1).length c549_1)).setCell ⟨gb550,2,none⟩ (.slice A549_2 ((rd_T83 l2 x13_1).f2).length c549_2)).heap[gb550]? = some (.cells #[.bool ((rd_T83 l2 x13_1).f0),.slice A549_1 ((rd_T83 l2 x13_1).f1).length c549_1,.slice A549_2 ((rd_T83 l2 x13_1).f2).length c549_2] 83 (0,0))):=⟨Yr⟩
       have n3_:Aside0 (Below w.heap.size w (((w13.setCell ⟨gb550,0,none⟩ (.bool ((rd_T83 l2 x13_1).f0))).setCell ⟨gb550,1,none⟩ (.slice A549_1 ((rd_T83 l2 x13_1).f1).length c549_1)).setCell ⟨gb550,2,none⟩ (.slice A549_2 ((rd_T83 l2 x13_1).f2).length c549_2))):=⟨bH⟩
       (try clear BK547)
       (try clear BK548)
       (try clear BK550)
       (try clear HB)
       generalize (((w13.setCell ⟨gb550,0,none⟩ (.bool ((rd_T83 l2 x13_1).f0))).setCell ⟨gb550,1,none⟩ (.slice A549_1 ((rd_T83 l2 x13_1).f1).length c549_1)).setCell ⟨gb550,2,none⟩ (.slice A549_2 ((rd_T83 l2 x13_1).f2).length c549_2)) = w17 at n0_ n1_ n2_ n3_ ⊢
       have BK547:=n0_
       have BK548:=n1_
       have BK550:=n2_
       have HB:=n3_
       clear n0_ n1_ n2_ n3_
       replace BK547:=Aside0.mk (blk_drew BK547.out);replace BK548:=Aside0.mk (blk_drew BK548.out);replace BK550:=Aside0.mk (blk_drew BK550.out);replace HB:=Aside0.mk (below_drew1 HB.out)
       refine start_ (n:=16) (S:=fun w'=>w'.cell? ⟨gb547,0,none⟩ = some (.slice A0_0 l0_0.length c0_0) ∧ w'.cell? ⟨gb548,0,none⟩ = some (.int .i64 a1_0) ∧ w'.cell? ⟨gb548,1,none⟩ = some (.slice A1_1 l1_1.length c1_1) ∧ w'.cell? ⟨gb550,0,none⟩ = some (.bool ((rd_T83 l2 x13_1).f0)) ∧ w'.cell? ⟨gb550,1,none⟩ = some (.slice A549_1 ((rd_T83 l2 x13_1).f1).length c549_1) ∧ w'.cell? ⟨gb550,2,none⟩ = some (.slice A549_2 ((rd_T83 l2 x13_1).f2).length c549_2)) (ds:=[]) #[false,false,false,false,false,false,false,false,false,false,false,false,false,false,false,false] (by kernel_rfl) rfl rfl ⟨(blk_cell BK547.out 0).trans rfl,(blk_cell BK548.out 0).trans rfl,(blk_cell BK548.out 1).trans rfl,(blk_cell BK550.out 0).trans rfl,(blk_cell BK550.out 1).trans rfl,(blk_cell BK550.out 2).trans rfl⟩ (fun hHeld=>?_);refine with_tabW spec_l5At.tab4 spec_l5At.bits4 (fun HT_ HW_=>?_)
       generalize w17.drew = w18 at BK547 BK548 BK550 HB hHeld ⊢
       refine pU (i:=2) (N:=some 19) #[false,false,true,false,false,false,false,false,false,false,false,false,false,false,false,false] (any_of HT_.out (by kernel_rfl)) ?_
       refine pU (i:=4) (N:=some 21) #[false,false,true,false,true,false,false,false,false,false,false,false,false,false,false,false] (any_of HT_.out (by kernel_rfl)) ?_
       refine pU (i:=8) (N:=some 25) #[false,false,true,false,true,false,false,false,true,false,false,false,false,false,false,false] (any_of HT_.out (by kernel_rfl)) ?_
       refine pU (i:=10) (N:=some 27) #[false,false,true,false,true,false,false,false,true,false,true,false,false,false,false,false] (any_of HT_.out (by kernel_rfl)) ?_
       refine pU (i:=13) (N:=some 30) #[false,false,true,false,true,false,false,false,true,false,true,false,false,true,false,false] (any_of HT_.out (by kernel_rfl)) ?_
       refine take_ (i:=0) (N:=some 17) (v:=?_) (a':=?_) #[true,false,true,false,true,false,false,false,true,false,true,false,false,true,false,false] rfl rfl (take_ofW HT_.out HW_.out (by kernel_rfl)) (fun _ _ _ h=>h) (Or.inl ⟨by rfl,?_⟩) hHeld ?_ ?_
       rotate_left
       ·rintro w' ⟨s0,s1,s2,s3,s4,s5⟩
        go_simp
        with_reducible rfl
       rotate_left
       ·simp only [Act.put,List.setIfInBounds_toArray,List.set_cons_zero,List.set_cons_succ,i64_w,i32_w]
        rfl
       refine take_ (i:=1) (N:=some 18) (v:=?_) (a':=?_) #[true,true,true,false,true,false,false,false,true,false,true,false,false,true,false,false] rfl rfl (take_ofW HT_.out HW_.out (by kernel_rfl)) (fun _ _ _ h=>h) (Or.inl ⟨by rfl,?_⟩) hHeld ?_ ?_
       rotate_left
       ·rintro w' ⟨s0,s1,s2,s3,s4,s5⟩
        go_simp
        with_reducible rfl
       rotate_left
       ·simp only [Act.put,List.setIfInBounds_toArray,List.set_cons_zero,List.set_cons_succ,i64_w,i32_w]
        rfl
       refine take_ (i:=3) (N:=some 20) (v:=?_) (a':=?_) #[true,true,true,true,true,false,false,false,true,false,true,false,false,true,false,false] rfl rfl (take_ofW HT_.out HW_.out (by kernel_rfl)) (fun _ _ _ h=>h) (Or.inl ⟨by rfl,?_⟩) hHeld ?_ ?_
       rotate_left
       ·rintro w' ⟨s0,s1,s2,s3,s4,s5⟩
        go_simp
        with_reducible rfl
       rotate_left
       ·simp only [Act.put,List.setIfInBounds_toArray,List.set_cons_zero,List.set_cons_succ,i64_w,i32_w]
        rfl
       refine take_ (i:=6) (N:=some 23) (v:=?_) (a':=?_) #[true,true,true,true,true,false,true,false,true,false,true,false,false,true,false,false] rfl rfl (take_ofW HT_.out HW_.out (by kernel_rfl)) (fun _ _ _ h=>h) (Or.inl ⟨by rfl,?_⟩) hHeld ?_ ?_
       rotate_left
       ·rintro w' ⟨s0,s1,s2,s3,s4,s5⟩
        go_simp
        with_reducible rfl
       rotate_left
       ·simp only [Act.put,List.setIfInBounds_toArray,List.set_cons_zero,List.set_cons_succ,i64_w,i32_w]
        rfl
       refine take_ (i:=7) (N:=some 24) (v:=?_) (a':=?_) #[true,true,true,true,true,false,true,true,true,false,true,false,false,true,false,false] rfl rfl (take_ofW HT_.out HW_.out (by kernel_rfl)) (fun _ _ _ h=>h) (Or.inl ⟨by rfl,?_⟩) hHeld ?_ ?_
       rotate_left
       ·rintro w' ⟨s0,s1,s2,s3,s4,s5⟩
        go_simp
        with_reducible rfl
       rotate_left
       ·simp only [Act.put,List.setIfInBounds_toArray,List.set_cons_zero,List.set_cons_succ,i64_w,i32_w]
        rfl
       refine take_ (i:=9) (N:=some 26) (v:=?_) (a':=?_) #[true,true,true,true,true,false,true,true,true,true,true,false,false,true,false,false] rfl rfl (take_ofW HT_.out HW_.out (by kernel_rfl)) (fun _ _ _ h=>h) (Or.inl ⟨by rfl,?_⟩) hHeld ?_ ?_
       rotate_left
       ·rintro w' ⟨s0,s1,s2,s3,s4,s5⟩
        go_simp
        with_reducible rfl
       rotate_left
       ·simp only [Act.put,List.setIfInBounds_toArray,List.set_cons_zero,List.set_cons_succ,i64_w,i32_w]
        rfl
       refine take_ (i:=14) (N:=some 31) (v:=?_) (a':=?_) #[true,true,true,true,true,false,true,true,true,true,true,false,false,true,true,false] rfl rfl (take_ofW HT_.out HW_.out (by kernel_rfl)) (fun _ _ _ h=>h) (Or.inl ⟨by rfl,?_⟩) hHeld ?_ ?_
       rotate_left
       ·rintro w' ⟨s0,s1,s2,s3,s4,s5⟩
        go_simp
        with_reducible rfl
       rotate_left
       ·simp only [Act.put,List.setIfInBounds_toArray,List.set_cons_zero,List.set_cons_succ,i64_w,i32_w]
        rfl
       refine one_ (i:=5) (N:=some 22) #[true,true,true,true,true,true,true,true,true,true,true,false,false,true,true,false] rfl rfl (one_of HT_.out (by kernel_rfl)) (by decide) (fun K hK=>?_)
       refine goes_ Try.func48 (by kernel_rfl) rfl #[.agg #[.slice A0_0 l0_0.length c0_0],.agg #[.int .i64 a1_0,.slice A1_1 l1_1.length c1_1],.slice A549_1 ((rd_T83 l2 x13_1).f1).length c549_1,.int .i64 0,.slice A3 l3.length c3] (by rfl) rfl rfl Ya ?_
       with_reducible refine (spec_l5Eval.calls k1 _ _ l0_0 a1_0 _ _ l1_1 _ _ ((rd_T83 l2 x13_1).f1) 0 _ _ l3 t551 _ ?side1 ?side2 ?side3 ?side4 ?side5 ?side6 ?side7 ?side8 A10.out).mono ?_
       (case side1=>exact Yv)
       (case side2=>exact Yu)
       (case side3=>exact YN)
       (case side4=>exact YK)
       (case side5=>exact sC HR549_1)
       (case side6=>exact HC549_1.out)
       (case side7=>exact sC HR3)
       (case side8=>exact HC3.out)
       rintro e w19 ⟨rfl,hb⟩
       refine ⟨_,rfl,?_⟩
       replace BK547:=Aside0.mk (blk_below (bB BK547) hb);replace BK548:=Aside0.mk (blk_below (bB BK548) hb);replace BK550:=Aside0.mk (blk_below (bB BK550) hb);replace HB:=Aside0.mk (below_step bH hb)
       (try clear hb)
       (try clear hb2)
       (try clear hk)
       (try clear hi)
       refine hK.out _ _ ⟨(blk_cell BK547.out 0).trans rfl,(blk_cell BK548.out 0).trans rfl,(blk_cell BK548.out 1).trans rfl,(blk_cell BK550.out 0).trans rfl,(blk_cell BK550.out 1).trans rfl,(blk_cell BK550.out 2).trans rfl⟩ (fun hHeld=>?_)
       clear hK K
       refine nM (N:=some 22) ?_
       refine one_ (i:=11) (N:=some 28) #[true,true,true,true,true,true,true,true,true,true,true,true,false,true,true,false] rfl rfl (one_of HT_.out (by kernel_rfl)) (by decide) (fun K hK=>?_)
       refine goes_ Try.func48 (by kernel_rfl) rfl #[.agg #[.slice A0_0 l0_0.length c0_0],.agg #[.int .i64 a1_0,.slice A1_1 l1_1.length c1_1],.slice A549_2 ((rd_T83 l2 x13_1).f2).length c549_2,.int .i64 0,.slice A3 l3.length c3] (by rfl) rfl rfl Ya ?_
       with_reducible refine (spec_l5Eval.calls k1 _ _ l0_0 a1_0 _ _ l1_1 _ _ ((rd_T83 l2 x13_1).f2) 0 _ _ l3 t552 _ ?side1 ?side2 ?side3 ?side4 ?side5 ?side6 ?side7 ?side8 A11.out).mono ?_
       (case side1=>exact Yv)
       (case side2=>exact Yu)
       (case side3=>exact YN)
       (case side4=>exact YK)
       (case side5=>exact sC HR549_2)
       (case side6=>exact HC549_2.out)
       (case side7=>exact sC HR3)
       (case side8=>exact HC3.out)
       rintro e w20 ⟨rfl,hb⟩
       refine ⟨_,rfl,?_⟩
       replace BK547:=Aside0.mk (blk_below (bB BK547) hb);replace BK548:=Aside0.mk (blk_below (bB BK548) hb);replace BK550:=Aside0.mk (blk_below (bB BK550) hb);replace HB:=Aside0.mk (below_step bH hb)
       (try clear hb)
       (try clear hb2)
       (try clear hk)
       (try clear hi)
       refine hK.out _ _ ⟨(blk_cell BK547.out 0).trans rfl,(blk_cell BK548.out 0).trans rfl,(blk_cell BK548.out 1).trans rfl,(blk_cell BK550.out 0).trans rfl,(blk_cell BK550.out 1).trans rfl,(blk_cell BK550.out 2).trans rfl⟩ (fun hHeld=>?_)
       clear hK K
       refine nM (N:=some 28) ?_
       refine pU (i:=12) (N:=some 29) #[true,true,true,true,true,true,true,true,true,true,true,true,true,true,true,false] (any_of HT_.out (by kernel_rfl)) ?_
       refine pU (i:=15) (N:=some 32) #[true,true,true,true,true,true,true,true,true,true,true,true,true,true,true,true] (any_of HT_.out (by kernel_rfl)) ?_
       refine done_ (done_of HT_.out (by kernel_rfl)) ?_
       try go_wp2
       go_ret
       exact ⟨Yb,bH⟩
      ·rw [if_neg c12] at H
       have c12b0:((t551 == t552) == ((rd_T83 l2 x13_1).f0)) = false:=by simpa using c12
       (try (have c12b1:decide ((t551 == t552) = ((rd_T83 l2 x13_1).f0)) = false:=by simpa using c12))
       (try (have c12b2:((t551 == t552) == ((rd_T83 l2 x13_1).f0)) = false:=by simpa using c12))
       (try (have c12b3:¬ ((t551 == t552) = ((rd_T83 l2 x13_1).f0)):=by simpa using c12))
       clear c12
       have H':=Aside0.mk H
       clear H
       have p549:0 ≤ (x13_1:Int):=oD
       have q549:x13_1 < (l2.length:Int):=oD
       obtain ⟨ad549,A549_1,c549_1,A549_2,c549_2,e549,hx549_0,hx549_1,hx549_2,hl549_1,hi549_1,hl549_2,hi549_2⟩:=at_T83 HR2.out x13_1 p549 q549
       cases e549
       replace hx549_0:=(HB.out.cell (World.block_lt_of_cell? w _ hx549_0)).trans hx549_0
       replace hx549_1:=(HB.out.cell (World.block_lt_of_cell? w _ hx549_1)).trans hx549_1
       replace hx549_2:=(HB.out.cell (World.block_lt_of_cell? w _ hx549_2)).trans hx549_2
       have HR549_1:=Aside0.mk hi549_1
       have HC549_1:=Aside0.mk hl549_1
       clear hi549_1 hl549_1
       have HR549_2:=Aside0.mk hi549_2
       have HC549_2:=Aside0.mk hl549_2
       clear hi549_2 hl549_2
       replace p549:=eq_true p549
       replace q549:=eq_true q549
       try go_wp2_with (first|((with_reducible refine gate_dst (N:=10) rfl ?_);refine box_event ?hg (N:=10) ?hd (cs:=#[.bool false,.slice none 0 0,.slice none 0 0]) (t:=83) ?hr ?_;(case hd=>rfl);(case hg=>rfl);(case hr=>exact Yd);intro gb550 hg w21 hbox hb;have BK550:=Aside0.mk (hbox);have GW550:=Aside0.mk ((hZ:w.heap.size ≤ gb550));have GE550:=Aside0.mk ((hZ:w.heap.size ≤ gb550));replace HB:=Aside0.mk (below_step bH hb);have NB547_550:=Aside0.mk ((nL BK547:gb547 ≠ gb550));have NB550_547:=Aside0.mk ((nG BK547:gb550 ≠ gb547));replace BK547:=Aside0.mk (blk_below (bB BK547) hb);have NB548_550:=Aside0.mk ((nL BK548:gb548 ≠ gb550));have NB550_548:=Aside0.mk ((nG BK548:gb550 ≠ gb548));replace BK548:=Aside0.mk (blk_below (bB BK548) hb);clear hb hbox hg;have hnb22:=NB550_547.out;have hnc22:=NB547_550.out;have hnb23:=NB550_548.out;have hnc23:=NB548_550.out;have hcz24_0:w21.cell? ⟨gb550,0,none⟩ = some (.bool false):=(blk_cell BK550.out 0).trans rfl;have hcz24_1:w21.cell? ⟨gb550,1,none⟩ = some (.slice none 0 0):=(blk_cell BK550.out 1).trans rfl;have hcz24_2:w21.cell? ⟨gb550,2,none⟩ = some (.slice none 0 0):=(blk_cell BK550.out 2).trans rfl;have hfz24_0:=blk_frozen BK550.out 0;have hfz24_1:=blk_frozen BK550.out 1;have hfz24_2:=blk_frozen BK550.out 2))
       have n0_:Aside0 ((((w21.setCell ⟨gb550,0,none⟩ (.bool ((rd_T83 l2 x13_1).f0))).setCell ⟨gb550,1,none⟩ (.slice A549_1 ((rd_T83 l2 x13_1).f1).length c549_1)).setCell ⟨gb550,2,none⟩ (.slice A549_2 ((rd_T83 l2 x13_1).f2).length c549_2)).heap[gb547]? = some (.cells #[.slice A0_0 l0_0.length c0_0] 26 (0,0))):=⟨Yx⟩
       have n1_:Aside0 ((((w21.setCell ⟨gb550,0,none⟩ (.bool ((rd_T83 l2 x13_1).f0))).setCell ⟨gb550,1,none⟩ (.slice A549_1 ((rd_T83 l2 x13_1).f1).length c549_1)).setCell ⟨gb550,2,none⟩ (.slice A549_2 ((rd_T83 l2 x13_1).f2).length c549_2)).heap[gb548]? = some (.cells #[.int .i64 a1_0,.slice A1_1 l1_1.length c1_1] 31 (0,0))):=⟨Yw⟩
       have n2_:Aside0 ((((w21.setCell ⟨gb550,0,none⟩ (.bool ((rd_T83 l2 x13_1).f0))).setCell ⟨gb550,1,none⟩ (.slice A549_1 ((rd_T83 l2 x13_1).f1).length c549_1)).setCell ⟨gb550,2,none⟩ (.slice A549_2 ((rd_T83 l2 x13_1).f2).length c549_2)).heap[gb550]? = some (.cells #[.bool ((rd_T83 l2 x13_1).f0),.slice A549_1 ((rd_T83 l2 x13_1).f1).length c549_1,.slice A549_2 ((rd_T83 l2 x13_1).f2).length c549_2] 83 (0,0))):=⟨Yr⟩
       have n3_:Aside0 (Below w.heap.size w (((w21.setCell ⟨gb550,0,none⟩ (.bool ((rd_T83 l2 x13_1).f0))).setCell ⟨gb550,1,none⟩ (.slice A549_1 ((rd_T83 l2 x13_1).f1).length c549_1)).setCell ⟨gb550,2,none⟩ (.slice A549_2 ((rd_T83 l2 x13_1).f2).length c549_2))):=⟨bH⟩
       (try clear BK547)
       (try clear BK548)
       (try clear BK550)
       (try clear HB)
       generalize (((w21.setCell ⟨gb550,0,none⟩ (.bool ((rd_T83 l2 x13_1).f0))).setCell ⟨gb550,1,none⟩ (.slice A549_1 ((rd_T83 l2 x13_1).f1).length c549_1)).setCell ⟨gb550,2,none⟩ (.slice A549_2 ((rd_T83 l2 x13_1).f2).length c549_2)) = w25 at n0_ n1_ n2_ n3_ ⊢
       have BK547:=n0_
       have BK548:=n1_
       have BK550:=n2_
       have HB:=n3_
       clear n0_ n1_ n2_ n3_
       replace BK547:=Aside0.mk (blk_drew BK547.out);replace BK548:=Aside0.mk (blk_drew BK548.out);replace BK550:=Aside0.mk (blk_drew BK550.out);replace HB:=Aside0.mk (below_drew1 HB.out)
       refine start_ (n:=16) (S:=fun w'=>w'.cell? ⟨gb547,0,none⟩ = some (.slice A0_0 l0_0.length c0_0) ∧ w'.cell? ⟨gb548,0,none⟩ = some (.int .i64 a1_0) ∧ w'.cell? ⟨gb548,1,none⟩ = some (.slice A1_1 l1_1.length c1_1) ∧ w'.cell? ⟨gb550,0,none⟩ = some (.bool ((rd_T83 l2 x13_1).f0)) ∧ w'.cell? ⟨gb550,1,none⟩ = some (.slice A549_1 ((rd_T83 l2 x13_1).f1).length c549_1) ∧ w'.cell? ⟨gb550,2,none⟩ = some (.slice A549_2 ((rd_T83 l2 x13_1).f2).length c549_2)) (ds:=[]) #[false,false,false,false,false,false,false,false,false,false,false,false,false,false,false,false] (by kernel_rfl) rfl rfl ⟨(blk_cell BK547.out 0).trans rfl,(blk_cell BK548.out 0).trans rfl,(blk_cell BK548.out 1).trans rfl,(blk_cell BK550.out 0).trans rfl,(blk_cell BK550.out 1).trans rfl,(blk_cell BK550.out 2).trans rfl⟩ (fun hHeld=>?_);refine with_tabW spec_l5At.tab4 spec_l5At.bits4 (fun HT_ HW_=>?_)
       generalize w25.drew = w26 at BK547 BK548 BK550 HB hHeld ⊢
       refine pU (i:=2) (N:=some 19) #[false,false,true,false,false,false,false,false,false,false,false,false,false,false,false,false] (any_of HT_.out (by kernel_rfl)) ?_
       refine pU (i:=4) (N:=some 21) #[false,false,true,false,true,false,false,false,false,false,false,false,false,false,false,false] (any_of HT_.out (by kernel_rfl)) ?_
       refine pU (i:=8) (N:=some 25) #[false,false,true,false,true,false,false,false,true,false,false,false,false,false,false,false] (any_of HT_.out (by kernel_rfl)) ?_
       refine pU (i:=10) (N:=some 27) #[false,false,true,false,true,false,false,false,true,false,true,false,false,false,false,false] (any_of HT_.out (by kernel_rfl)) ?_
       refine pU (i:=13) (N:=some 30) #[false,false,true,false,true,false,false,false,true,false,true,false,false,true,false,false] (any_of HT_.out (by kernel_rfl)) ?_
       refine take_ (i:=0) (N:=some 17) (v:=?_) (a':=?_) #[true,false,true,false,true,false,false,false,true,false,true,false,false,true,false,false] rfl rfl (take_ofW HT_.out HW_.out (by kernel_rfl)) (fun _ _ _ h=>h) (Or.inl ⟨by rfl,?_⟩) hHeld ?_ ?_
       rotate_left
       ·rintro w' ⟨s0,s1,s2,s3,s4,s5⟩
        go_simp
        with_reducible rfl
       rotate_left
       ·simp only [Act.put,List.setIfInBounds_toArray,List.set_cons_zero,List.set_cons_succ,i64_w,i32_w]
        rfl
       refine take_ (i:=1) (N:=some 18) (v:=?_) (a':=?_) #[true,true,true,false,true,false,false,false,true,false,true,false,false,true,false,false] rfl rfl (take_ofW HT_.out HW_.out (by kernel_rfl)) (fun _ _ _ h=>h) (Or.inl ⟨by rfl,?_⟩) hHeld ?_ ?_
       rotate_left
       ·rintro w' ⟨s0,s1,s2,s3,s4,s5⟩
        go_simp
        with_reducible rfl
       rotate_left
       ·simp only [Act.put,List.setIfInBounds_toArray,List.set_cons_zero,List.set_cons_succ,i64_w,i32_w]
        rfl
       refine take_ (i:=3) (N:=some 20) (v:=?_) (a':=?_) #[true,true,true,true,true,false,false,false,true,false,true,false,false,true,false,false] rfl rfl (take_ofW HT_.out HW_.out (by kernel_rfl)) (fun _ _ _ h=>h) (Or.inl ⟨by rfl,?_⟩) hHeld ?_ ?_
       rotate_left
       ·rintro w' ⟨s0,s1,s2,s3,s4,s5⟩
        go_simp
        with_reducible rfl
       rotate_left
       ·simp only [Act.put,List.setIfInBounds_toArray,List.set_cons_zero,List.set_cons_succ,i64_w,i32_w]
        rfl
       refine take_ (i:=6) (N:=some 23) (v:=?_) (a':=?_) #[true,true,true,true,true,false,true,false,true,false,true,false,false,true,false,false] rfl rfl (take_ofW HT_.out HW_.out (by kernel_rfl)) (fun _ _ _ h=>h) (Or.inl ⟨by rfl,?_⟩) hHeld ?_ ?_
       rotate_left
       ·rintro w' ⟨s0,s1,s2,s3,s4,s5⟩
        go_simp
        with_reducible rfl
       rotate_left
       ·simp only [Act.put,List.setIfInBounds_toArray,List.set_cons_zero,List.set_cons_succ,i64_w,i32_w]
        rfl
       refine take_ (i:=7) (N:=some 24) (v:=?_) (a':=?_) #[true,true,true,true,true,false,true,true,true,false,true,false,false,true,false,false] rfl rfl (take_ofW HT_.out HW_.out (by kernel_rfl)) (fun _ _ _ h=>h) (Or.inl ⟨by rfl,?_⟩) hHeld ?_ ?_
       rotate_left
       ·rintro w' ⟨s0,s1,s2,s3,s4,s5⟩
        go_simp
        with_reducible rfl
       rotate_left
       ·simp only [Act.put,List.setIfInBounds_toArray,List.set_cons_zero,List.set_cons_succ,i64_w,i32_w]
        rfl
       refine take_ (i:=9) (N:=some 26) (v:=?_) (a':=?_) #[true,true,true,true,true,false,true,true,true,true,true,false,false,true,false,false] rfl rfl (take_ofW HT_.out HW_.out (by kernel_rfl)) (fun _ _ _ h=>h) (Or.inl ⟨by rfl,?_⟩) hHeld ?_ ?_
       rotate_left
       ·rintro w' ⟨s0,s1,s2,s3,s4,s5⟩
        go_simp
        with_reducible rfl
       rotate_left
       ·simp only [Act.put,List.setIfInBounds_toArray,List.set_cons_zero,List.set_cons_succ,i64_w,i32_w]
        rfl
       refine take_ (i:=14) (N:=some 31) (v:=?_) (a':=?_) #[true,true,true,true,true,false,true,true,true,true,true,false,false,true,true,false] rfl rfl (take_ofW HT_.out HW_.out (by kernel_rfl)) (fun _ _ _ h=>h) (Or.inl ⟨by rfl,?_⟩) hHeld ?_ ?_
       rotate_left
       ·rintro w' ⟨s0,s1,s2,s3,s4,s5⟩
        go_simp
        with_reducible rfl
       rotate_left
       ·simp only [Act.put,List.setIfInBounds_toArray,List.set_cons_zero,List.set_cons_succ,i64_w,i32_w]
        rfl
       refine one_ (i:=5) (N:=some 22) #[true,true,true,true,true,true,true,true,true,true,true,false,false,true,true,false] rfl rfl (one_of HT_.out (by kernel_rfl)) (by decide) (fun K hK=>?_)
       refine goes_ Try.func48 (by kernel_rfl) rfl #[.agg #[.slice A0_0 l0_0.length c0_0],.agg #[.int .i64 a1_0,.slice A1_1 l1_1.length c1_1],.slice A549_1 ((rd_T83 l2 x13_1).f1).length c549_1,.int .i64 0,.slice A3 l3.length c3] (by rfl) rfl rfl Ya ?_
       with_reducible refine (spec_l5Eval.calls k1 _ _ l0_0 a1_0 _ _ l1_1 _ _ ((rd_T83 l2 x13_1).f1) 0 _ _ l3 t551 _ ?side1 ?side2 ?side3 ?side4 ?side5 ?side6 ?side7 ?side8 A10.out).mono ?_
       (case side1=>exact Yv)
       (case side2=>exact Yu)
       (case side3=>exact YN)
       (case side4=>exact YK)
       (case side5=>exact sC HR549_1)
       (case side6=>exact HC549_1.out)
       (case side7=>exact sC HR3)
       (case side8=>exact HC3.out)
       rintro e w27 ⟨rfl,hb⟩
       refine ⟨_,rfl,?_⟩
       replace BK547:=Aside0.mk (blk_below (bB BK547) hb);replace BK548:=Aside0.mk (blk_below (bB BK548) hb);replace BK550:=Aside0.mk (blk_below (bB BK550) hb);replace HB:=Aside0.mk (below_step bH hb)
       (try clear hb)
       (try clear hb2)
       (try clear hk)
       (try clear hi)
       refine hK.out _ _ ⟨(blk_cell BK547.out 0).trans rfl,(blk_cell BK548.out 0).trans rfl,(blk_cell BK548.out 1).trans rfl,(blk_cell BK550.out 0).trans rfl,(blk_cell BK550.out 1).trans rfl,(blk_cell BK550.out 2).trans rfl⟩ (fun hHeld=>?_)
       clear hK K
       refine nM (N:=some 22) ?_
       refine one_ (i:=11) (N:=some 28) #[true,true,true,true,true,true,true,true,true,true,true,true,false,true,true,false] rfl rfl (one_of HT_.out (by kernel_rfl)) (by decide) (fun K hK=>?_)
       refine goes_ Try.func48 (by kernel_rfl) rfl #[.agg #[.slice A0_0 l0_0.length c0_0],.agg #[.int .i64 a1_0,.slice A1_1 l1_1.length c1_1],.slice A549_2 ((rd_T83 l2 x13_1).f2).length c549_2,.int .i64 0,.slice A3 l3.length c3] (by rfl) rfl rfl Ya ?_
       with_reducible refine (spec_l5Eval.calls k1 _ _ l0_0 a1_0 _ _ l1_1 _ _ ((rd_T83 l2 x13_1).f2) 0 _ _ l3 t552 _ ?side1 ?side2 ?side3 ?side4 ?side5 ?side6 ?side7 ?side8 A11.out).mono ?_
       (case side1=>exact Yv)
       (case side2=>exact Yu)
       (case side3=>exact YN)
       (case side4=>exact YK)
       (case side5=>exact sC HR549_2)
       (case side6=>exact HC549_2.out)
       (case side7=>exact sC HR3)
       (case side8=>exact HC3.out)
       rintro e w28 ⟨rfl,hb⟩
       refine ⟨_,rfl,?_⟩
       replace BK547:=Aside0.mk (blk_below (bB BK547) hb);replace BK548:=Aside0.mk (blk_below (bB BK548) hb);replace BK550:=Aside0.mk (blk_below (bB BK550) hb);replace HB:=Aside0.mk (below_step bH hb)
       (try clear hb)
       (try clear hb2)
       (try clear hk)
       (try clear hi)
       refine hK.out _ _ ⟨(blk_cell BK547.out 0).trans rfl,(blk_cell BK548.out 0).trans rfl,(blk_cell BK548.out 1).trans rfl,(blk_cell BK550.out 0).trans rfl,(blk_cell BK550.out 1).trans rfl,(blk_cell BK550.out 2).trans rfl⟩ (fun hHeld=>?_)
       clear hK K
       refine nM (N:=some 28) ?_
       refine pU (i:=12) (N:=some 29) #[true,true,true,true,true,true,true,true,true,true,true,true,true,true,true,false] (any_of HT_.out (by kernel_rfl)) ?_
       refine pU (i:=15) (N:=some 32) #[true,true,true,true,true,true,true,true,true,true,true,true,true,true,true,true] (any_of HT_.out (by kernel_rfl)) ?_
       refine done_ (done_of HT_.out (by kernel_rfl)) ?_
       try go_wp2
       go_roundg k1
       case measure=>have:=HK1.out;omega
       case rel=>exact ⟨(wrap64 (x13_1 + 1)),Ye,H',⟨Ze⟩,⟨by (with_reducible repeat (first|refine blk_drewN ?_ _|refine blk_drew ?_|refine blk_alloc ?_ _));exact BK547.out⟩,⟨by (with_reducible repeat (first|refine blk_drewN ?_ _|refine blk_drew ?_|refine blk_alloc ?_ _));exact BK548.out⟩,⟨bH⟩⟩
     ·rw [if_neg c9] at H
      exact absurd H (by simp)
    ·rw [if_neg c8] at H
     exact absurd H (by simp)
   ·rw [if_neg c7] at H
    have c7b0:decide (x13_1 < (l2.length:Int)) = false:=decide_eq_false c7
    clear c7
    obtain rfl:=Option.some.inj H
    go_wp2
    go_ret
    exact ⟨Yb,bH⟩

/-! ### spec_HoldsAt: function 15 -/
def spec_HoldsAt.f (k:Nat) (l0_0:List Int) (a1_0:Int) (l1_1:List (List Int)) (l2:List (S83)) (l3:List Int):Option (Bool × Bool):=(spec_GoodWorld.f k l0_0 a1_0 l1_1).bind fun t555=>(if t555 = true then ((spec_l4Clause.f k l0_0 l2).bind fun t556=>(if t556 = true then ((spec_l5Env.f k a1_0 l1_1 l3).bind fun t557=>(if t557 = true then ((spec_l5At.f k l0_0 a1_0 l1_1 l2 l3).bind fun t558=>(some (t558,true))) else (some (false,false)))) else (some (false,false)))) else (some (false,false)))
theorem spec_HoldsAt.mono:∀ a0 a1 a2 a3 a4 k,LeO (spec_HoldsAt.f k a0 a1 a2 a3 a4) (spec_HoldsAt.f (k + 1) a0 a1 a2 a3 a4):=by
 intro a0 a1 a2 a3 a4 k
 unfold spec_HoldsAt.f
 have m0:=@spec_GoodWorld.mono
 have m1:=@spec_l4Clause.mono
 have m2:=@spec_l5At.mono
 have m3:=@spec_l5Env.mono
 exact mO
set_option maxHeartbeats 8000000 in
set_option maxRecDepth 100000 in
theorem spec_HoldsAt.calls (k:Nat) (A0_0:Option Addr) (c0_0:Nat) (l0_0:List Int) (a1_0:Int) (A1_1:Option Addr) (c1_1:Nat) (l1_1:List (List Int)) (A2:Option Addr) (c2:Nat) (l2:List (S83)) (A3:Option Addr) (c3:Nat) (l3:List Int) (r1:Bool) (r2:Bool) (w:World) (hr0_0:Kd.C (Kd.int .i64) w A0_0 l0_0.length l0_0) (hc0_0:l0_0.length ≤ c0_0) (hr1_1:Kd.C (Kd.slice 3 (Kd.int .i64)) w A1_1 l1_1.length l1_1) (hc1_1:l1_1.length ≤ c1_1) (hr2:Kd.C k83 w A2 l2.length l2) (hc2:l2.length ≤ c2) (hr3:Kd.C (Kd.int .i64) w A3 l3.length l3) (hc3:l3.length ≤ c3) (h:spec_HoldsAt.f k l0_0 a1_0 l1_1 l2 l3 = some (r1,r2)) :
  Calls Try.prog 15 #[.agg #[.slice A0_0 l0_0.length c0_0],.agg #[.int .i64 a1_0,.slice A1_1 l1_1.length c1_1],.slice A2 l2.length c2,.slice A3 l3.length c3] w fun e w'=>e = .returned (.tuple #[.bool r1,.bool r2]) ∧ Below w.heap.size w w':=by
 have hu26:=Try.underlying26
 have hu31:=Try.underlying31
 have HR0_0:=Aside0.mk hr0_0
 have HC0_0:=Aside0.mk hc0_0
 clear hr0_0 hc0_0
 have HR1_1:=Aside0.mk hr1_1
 have HC1_1:=Aside0.mk hc1_1
 clear hr1_1 hc1_1
 have HR2:=Aside0.mk hr2
 have HC2:=Aside0.mk hc2
 clear hr2 hc2
 have HR3:=Aside0.mk hr3
 have HC3:=Aside0.mk hc3
 clear hr3 hc3
 have HB:=Aside0.mk (Below.refl w.heap.size w)
 have H:((spec_GoodWorld.f k l0_0 a1_0 l1_1).bind fun t555=>(if t555 = true then ((spec_l4Clause.f k l0_0 l2).bind fun t556=>(if t556 = true then ((spec_l5Env.f k a1_0 l1_1 l3).bind fun t557=>(if t557 = true then ((spec_l5At.f k l0_0 a1_0 l1_1 l2 l3).bind fun t558=>(some (t558,true))) else (some (false,false)))) else (some (false,false)))) else (some (false,false)))) = some (r1,r2):=h
 clear h
 replace H:=Option.bind_eq_some_iff.mp H
 obtain ⟨t555,A50,H⟩:=H
 replace H:(if t555 = true then ((spec_l4Clause.f k l0_0 l2).bind fun t556=>(if t556 = true then ((spec_l5Env.f k a1_0 l1_1 l3).bind fun t557=>(if t557 = true then ((spec_l5At.f k l0_0 a1_0 l1_1 l2 l3).bind fun t558=>(some (t558,true))) else (some (false,false)))) else (some (false,false)))) else (some (false,false))) = some (r1,r2):=H
 have A5:=Aside0.mk A50
 clear A50
 by_cases c6:t555 = true
 ·subst c6
  have H1:((spec_l4Clause.f k l0_0 l2).bind fun t556=>(if t556 = true then ((spec_l5Env.f k a1_0 l1_1 l3).bind fun t557=>(if t557 = true then ((spec_l5At.f k l0_0 a1_0 l1_1 l2 l3).bind fun t558=>(some (t558,true))) else (some (false,false)))) else (some (false,false)))) = some (r1,r2):=by rw [if_pos rfl] at H;exact H
  clear H
  have H:=H1
  clear H1
  replace H:=Option.bind_eq_some_iff.mp H
  obtain ⟨t556,A70,H⟩:=H
  replace H:(if t556 = true then ((spec_l5Env.f k a1_0 l1_1 l3).bind fun t557=>(if t557 = true then ((spec_l5At.f k l0_0 a1_0 l1_1 l2 l3).bind fun t558=>(some (t558,true))) else (some (false,false)))) else (some (false,false))) = some (r1,r2):=H
  have A7:=Aside0.mk A70
  clear A70
  by_cases c8:t556 = true
  ·subst c8
   have H1:((spec_l5Env.f k a1_0 l1_1 l3).bind fun t557=>(if t557 = true then ((spec_l5At.f k l0_0 a1_0 l1_1 l2 l3).bind fun t558=>(some (t558,true))) else (some (false,false)))) = some (r1,r2):=by rw [if_pos rfl] at H;exact H
   clear H
   have H:=H1
   clear H1
   replace H:=Option.bind_eq_some_iff.mp H
   obtain ⟨t557,A90,H⟩:=H
   replace H:(if t557 = true then ((spec_l5At.f k l0_0 a1_0 l1_1 l2 l3).bind fun t558=>(some (t558,true))) else (some (false,false))) = some (r1,r2):=H
   have A9:=Aside0.mk A90
   clear A90
   by_cases c10:t557 = true
   ·subst c10
    have H1:((spec_l5At.f k l0_0 a1_0 l1_1 l2 l3).bind fun t558=>(some (t558,true))) = some (r1,r2):=by rw [if_pos rfl] at H;exact H
    clear H
    have H:=H1
    clear H1
    replace H:=Option.bind_eq_some_iff.mp H
    obtain ⟨t558,A110,H⟩:=H
    replace H:(some (t558,true)) = some (r1,r2):=H
    have A11:=Aside0.mk A110
    clear A110
    simp only [Option.some.injEq,Prod.mk.injEq] at H
    obtain ⟨rfl,rfl⟩:=H
    go_enter Try.func15,Try.ntmps15
    go_wp2_with (first|((with_reducible refine gate_dst (N:=4) rfl ?_);refine box_event ?hg (N:=4) ?hd (cs:=#[.slice A0_0 l0_0.length c0_0]) (t:=26) ?hr ?_;(case hd=>rfl);(case hg=>rfl);(case hr=>exact Yd);intro gb553 hg w12 hbox hb;have BK553:=Aside0.mk (hbox);have GW553:=Aside0.mk ((hZ:w.heap.size ≤ gb553));have GE553:=Aside0.mk ((hZ:w.heap.size ≤ gb553));replace HB:=Aside0.mk (below_step bH hb);clear hb hbox hg)|((with_reducible refine gate_dst (N:=5) rfl ?_);refine box_event ?hg (N:=5) ?hd (cs:=#[.int .i64 a1_0,.slice A1_1 l1_1.length c1_1]) (t:=31) ?hr ?_;(case hd=>rfl);(case hg=>rfl);(case hr=>exact Yd);intro gb554 hg w13 hbox hb;have BK554:=Aside0.mk (hbox);have GW554:=Aside0.mk ((hZ:w.heap.size ≤ gb554));have GE554:=Aside0.mk ((hZ:w.heap.size ≤ gb554));replace HB:=Aside0.mk (below_step bH hb);have NB553_554:=Aside0.mk ((nL BK553:gb553 ≠ gb554));have NB554_553:=Aside0.mk ((nG BK553:gb554 ≠ gb553));replace BK553:=Aside0.mk (blk_below (bB BK553) hb);clear hb hbox hg;have hnb14:=NB553_554.out;have hnc14:=NB554_553.out;have hcz15_0:w13.cell? ⟨gb553,0,none⟩ = some (.slice A0_0 l0_0.length c0_0):=(blk_cell BK553.out 0).trans rfl;have hfz15_0:=blk_frozen BK553.out 0;have hcz16_0:w13.cell? ⟨gb554,0,none⟩ = some (.int .i64 a1_0):=(blk_cell BK554.out 0).trans rfl;have hcz16_1:w13.cell? ⟨gb554,1,none⟩ = some (.slice A1_1 l1_1.length c1_1):=(blk_cell BK554.out 1).trans rfl;have hfz16_0:=blk_frozen BK554.out 0;have hfz16_1:=blk_frozen BK554.out 1)|((with_reducible refine gate_callee (f:=17) rfl ?_);refine goesL_ (some 12) rfl rfl Try.func17 (by kernel_rfl) rfl #[.agg #[.slice A0_0 l0_0.length c0_0],.agg #[.int .i64 a1_0,.slice A1_1 l1_1.length c1_1]] rfl Ya ?_;(with_reducible refine (spec_GoodWorld.calls k _ _ l0_0 a1_0 _ _ l1_1 true _ ?side1 ?side2 ?side3 ?side4 A5.out).mono ?_);(case side1=>exact Yv);(case side2=>exact Yu);(case side3=>exact YN);(case side4=>exact YK);rintro e w17 ⟨rfl,hb⟩;refine ⟨_,rfl,?_⟩;replace BK553:=Aside0.mk (blk_below (bB BK553) hb);replace BK554:=Aside0.mk (blk_below (bB BK554) hb);replace HB:=Aside0.mk (below_step bH hb);(try clear hb);(try clear hb2);(try clear hk);(try clear hi);have hcz18_0:w17.cell? ⟨gb553,0,none⟩ = some (.slice A0_0 l0_0.length c0_0):=(blk_cell BK553.out 0).trans rfl;have hfz18_0:=blk_frozen BK553.out 0)|(go_at_call 52;(with_reducible refine (spec_l4Clause.calls k _ _ l0_0 _ _ l2 true _ ?side1 ?side2 ?side3 ?side4 A7.out).mono ?_);(case side1=>exact Yv);(case side2=>exact Yu);(case side3=>exact sC HR2);(case side4=>exact HC2.out);rintro e w19 ⟨rfl,hb⟩;replace BK553:=Aside0.mk (blk_below (bB BK553) hb);replace BK554:=Aside0.mk (blk_below (bB BK554) hb);replace HB:=Aside0.mk (below_step bH hb);(try clear hb);(try clear hb2);(try clear hk);(try clear hi);have hcz20_0:w19.cell? ⟨gb554,0,none⟩ = some (.int .i64 a1_0):=(blk_cell BK554.out 0).trans rfl;have hcz20_1:w19.cell? ⟨gb554,1,none⟩ = some (.slice A1_1 l1_1.length c1_1):=(blk_cell BK554.out 1).trans rfl;have hfz20_0:=blk_frozen BK554.out 0;have hfz20_1:=blk_frozen BK554.out 1)|(go_at_call 47;(with_reducible refine (spec_l5Env.calls k a1_0 _ _ l1_1 _ _ l3 true _ ?side1 ?side2 ?side3 ?side4 A9.out).mono ?_);(case side1=>exact YN);(case side2=>exact YK);(case side3=>exact sC HR3);(case side4=>exact HC3.out);rintro e w21 ⟨rfl,hb⟩;replace BK553:=Aside0.mk (blk_below (bB BK553) hb);replace BK554:=Aside0.mk (blk_below (bB BK554) hb);replace HB:=Aside0.mk (below_step bH hb);(try clear hb);(try clear hb2);(try clear hk);(try clear hi);have hcz22_0:w21.cell? ⟨gb553,0,none⟩ = some (.slice A0_0 l0_0.length c0_0):=(blk_cell BK553.out 0).trans rfl;have hfz22_0:=blk_frozen BK553.out 0;have hcz23_0:w21.cell? ⟨gb554,0,none⟩ = some (.int .i64 a1_0):=(blk_cell BK554.out 0).trans rfl;have hcz23_1:w21.cell? ⟨gb554,1,none⟩ = some (.slice A1_1 l1_1.length c1_1):=(blk_cell BK554.out 1).trans rfl;have hfz23_0:=blk_frozen BK554.out 0;have hfz23_1:=blk_frozen BK554.out 1)|((with_reducible refine gate_callee (f:=53) rfl ?_);refine goesL_ (some 30) rfl rfl Try.func53 (by kernel_rfl) rfl #[.agg #[.slice A0_0 l0_0.length c0_0],.agg #[.int .i64 a1_0,.slice A1_1 l1_1.length c1_1],.slice A2 l2.length c2,.slice A3 l3.length c3] rfl Ya ?_;(with_reducible refine (spec_l5At.calls k _ _ l0_0 a1_0 _ _ l1_1 _ _ l2 _ _ l3 t558 _ ?side1 ?side2 ?side3 ?side4 ?side5 ?side6 ?side7 ?side8 A11.out).mono ?_);(case side1=>exact Yv);(case side2=>exact Yu);(case side3=>exact YN);(case side4=>exact YK);(case side5=>exact sC HR2);(case side6=>exact HC2.out);(case side7=>exact sC HR3);(case side8=>exact HC3.out);rintro e w24 ⟨rfl,hb⟩;refine ⟨_,rfl,?_⟩;replace BK553:=Aside0.mk (blk_below (bB BK553) hb);replace BK554:=Aside0.mk (blk_below (bB BK554) hb);replace HB:=Aside0.mk (below_step bH hb);(try clear hb);(try clear hb2);(try clear hk);(try clear hi)))
    go_ret2
    exact ⟨Yb,bH⟩
   ·replace c10:=Bool.eq_false_iff.mpr c10
    subst c10
    have H1:(some (false,false)) = some (r1,r2):=by rw [if_neg (show ¬ (false = true) by decide)] at H;exact H
    clear H
    have H:=H1
    clear H1
    simp only [Option.some.injEq,Prod.mk.injEq] at H
    obtain ⟨rfl,rfl⟩:=H
    go_enter Try.func15,Try.ntmps15
    go_wp2_with (first|((with_reducible refine gate_dst (N:=4) rfl ?_);refine box_event ?hg (N:=4) ?hd (cs:=#[.slice A0_0 l0_0.length c0_0]) (t:=26) ?hr ?_;(case hd=>rfl);(case hg=>rfl);(case hr=>exact Yd);intro gb553 hg w25 hbox hb;have BK553:=Aside0.mk (hbox);have GW553:=Aside0.mk ((hZ:w.heap.size ≤ gb553));have GE553:=Aside0.mk ((hZ:w.heap.size ≤ gb553));replace HB:=Aside0.mk (below_step bH hb);clear hb hbox hg)|((with_reducible refine gate_dst (N:=5) rfl ?_);refine box_event ?hg (N:=5) ?hd (cs:=#[.int .i64 a1_0,.slice A1_1 l1_1.length c1_1]) (t:=31) ?hr ?_;(case hd=>rfl);(case hg=>rfl);(case hr=>exact Yd);intro gb554 hg w26 hbox hb;have BK554:=Aside0.mk (hbox);have GW554:=Aside0.mk ((hZ:w.heap.size ≤ gb554));have GE554:=Aside0.mk ((hZ:w.heap.size ≤ gb554));replace HB:=Aside0.mk (below_step bH hb);have NB553_554:=Aside0.mk ((nL BK553:gb553 ≠ gb554));have NB554_553:=Aside0.mk ((nG BK553:gb554 ≠ gb553));replace BK553:=Aside0.mk (blk_below (bB BK553) hb);clear hb hbox hg;have hnb27:=NB553_554.out;have hnc27:=NB554_553.out;have hcz28_0:w26.cell? ⟨gb553,0,none⟩ = some (.slice A0_0 l0_0.length c0_0):=(blk_cell BK553.out 0).trans rfl;have hfz28_0:=blk_frozen BK553.out 0;have hcz29_0:w26.cell? ⟨gb554,0,none⟩ = some (.int .i64 a1_0):=(blk_cell BK554.out 0).trans rfl;have hcz29_1:w26.cell? ⟨gb554,1,none⟩ = some (.slice A1_1 l1_1.length c1_1):=(blk_cell BK554.out 1).trans rfl;have hfz29_0:=blk_frozen BK554.out 0;have hfz29_1:=blk_frozen BK554.out 1)|((with_reducible refine gate_callee (f:=17) rfl ?_);refine goesL_ (some 12) rfl rfl Try.func17 (by kernel_rfl) rfl #[.agg #[.slice A0_0 l0_0.length c0_0],.agg #[.int .i64 a1_0,.slice A1_1 l1_1.length c1_1]] rfl Ya ?_;(with_reducible refine (spec_GoodWorld.calls k _ _ l0_0 a1_0 _ _ l1_1 true _ ?side1 ?side2 ?side3 ?side4 A5.out).mono ?_);(case side1=>exact Yv);(case side2=>exact Yu);(case side3=>exact YN);(case side4=>exact YK);rintro e w30 ⟨rfl,hb⟩;refine ⟨_,rfl,?_⟩;replace BK553:=Aside0.mk (blk_below (bB BK553) hb);replace BK554:=Aside0.mk (blk_below (bB BK554) hb);replace HB:=Aside0.mk (below_step bH hb);(try clear hb);(try clear hb2);(try clear hk);(try clear hi);have hcz31_0:w30.cell? ⟨gb553,0,none⟩ = some (.slice A0_0 l0_0.length c0_0):=(blk_cell BK553.out 0).trans rfl;have hfz31_0:=blk_frozen BK553.out 0)|(go_at_call 52;(with_reducible refine (spec_l4Clause.calls k _ _ l0_0 _ _ l2 true _ ?side1 ?side2 ?side3 ?side4 A7.out).mono ?_);(case side1=>exact Yv);(case side2=>exact Yu);(case side3=>exact sC HR2);(case side4=>exact HC2.out);rintro e w32 ⟨rfl,hb⟩;replace BK553:=Aside0.mk (blk_below (bB BK553) hb);replace BK554:=Aside0.mk (blk_below (bB BK554) hb);replace HB:=Aside0.mk (below_step bH hb);(try clear hb);(try clear hb2);(try clear hk);(try clear hi);have hcz33_0:w32.cell? ⟨gb554,0,none⟩ = some (.int .i64 a1_0):=(blk_cell BK554.out 0).trans rfl;have hcz33_1:w32.cell? ⟨gb554,1,none⟩ = some (.slice A1_1 l1_1.length c1_1):=(blk_cell BK554.out 1).trans rfl;have hfz33_0:=blk_frozen BK554.out 0;have hfz33_1:=blk_frozen BK554.out 1)|(go_at_call 47;(with_reducible refine (spec_l5Env.calls k a1_0 _ _ l1_1 _ _ l3 false _ ?side1 ?side2 ?side3 ?side4 A9.out).mono ?_);(case side1=>exact YN);(case side2=>exact YK);(case side3=>exact sC HR3);(case side4=>exact HC3.out);rintro e w34 ⟨rfl,hb⟩;replace BK553:=Aside0.mk (blk_below (bB BK553) hb);replace BK554:=Aside0.mk (blk_below (bB BK554) hb);replace HB:=Aside0.mk (below_step bH hb);(try clear hb);(try clear hb2);(try clear hk);(try clear hi)))
    go_ret2
    exact ⟨Yb,bH⟩
  ·replace c8:=Bool.eq_false_iff.mpr c8
   subst c8
   have H1:(some (false,false)) = some (r1,r2):=by rw [if_neg (show ¬ (false = true) by decide)] at H;exact H
   clear H
   have H:=H1
   clear H1
   simp only [Option.some.injEq,Prod.mk.injEq] at H
   obtain ⟨rfl,rfl⟩:=H
   go_enter Try.func15,Try.ntmps15
   go_wp2_with (first|((with_reducible refine gate_dst (N:=4) rfl ?_);refine box_event ?hg (N:=4) ?hd (cs:=#[.slice A0_0 l0_0.length c0_0]) (t:=26) ?hr ?_;(case hd=>rfl);(case hg=>rfl);(case hr=>exact Yd);intro gb553 hg w35 hbox hb;have BK553:=Aside0.mk (hbox);have GW553:=Aside0.mk ((hZ:w.heap.size ≤ gb553));have GE553:=Aside0.mk ((hZ:w.heap.size ≤ gb553));replace HB:=Aside0.mk (below_step bH hb);clear hb hbox hg)|((with_reducible refine gate_dst (N:=5) rfl ?_);refine box_event ?hg (N:=5) ?hd (cs:=#[.int .i64 a1_0,.slice A1_1 l1_1.length c1_1]) (t:=31) ?hr ?_;(case hd=>rfl);(case hg=>rfl);(case hr=>exact Yd);intro gb554 hg w36 hbox hb;have BK554:=Aside0.mk (hbox);have GW554:=Aside0.mk ((hZ:w.heap.size ≤ gb554));have GE554:=Aside0.mk ((hZ:w.heap.size ≤ gb554));replace HB:=Aside0.mk (below_step bH hb);have NB553_554:=Aside0.mk ((nL BK553:gb553 ≠ gb554));have NB554_553:=Aside0.mk ((nG BK553:gb554 ≠ gb553));replace BK553:=Aside0.mk (blk_below (bB BK553) hb);clear hb hbox hg;have hnb37:=NB553_554.out;have hnc37:=NB554_553.out;have hcz38_0:w36.cell? ⟨gb553,0,none⟩ = some (.slice A0_0 l0_0.length c0_0):=(blk_cell BK553.out 0).trans rfl;have hfz38_0:=blk_frozen BK553.out 0;have hcz39_0:w36.cell? ⟨gb554,0,none⟩ = some (.int .i64 a1_0):=(blk_cell BK554.out 0).trans rfl;have hcz39_1:w36.cell? ⟨gb554,1,none⟩ = some (.slice A1_1 l1_1.length c1_1):=(blk_cell BK554.out 1).trans rfl;have hfz39_0:=blk_frozen BK554.out 0;have hfz39_1:=blk_frozen BK554.out 1)|((with_reducible refine gate_callee (f:=17) rfl ?_);refine goesL_ (some 12) rfl rfl Try.func17 (by kernel_rfl) rfl #[.agg #[.slice A0_0 l0_0.length c0_0],.agg #[.int .i64 a1_0,.slice A1_1 l1_1.length c1_1]] rfl Ya ?_;(with_reducible refine (spec_GoodWorld.calls k _ _ l0_0 a1_0 _ _ l1_1 true _ ?side1 ?side2 ?side3 ?side4 A5.out).mono ?_);(case side1=>exact Yv);(case side2=>exact Yu);(case side3=>exact YN);(case side4=>exact YK);rintro e w40 ⟨rfl,hb⟩;refine ⟨_,rfl,?_⟩;replace BK553:=Aside0.mk (blk_below (bB BK553) hb);replace BK554:=Aside0.mk (blk_below (bB BK554) hb);replace HB:=Aside0.mk (below_step bH hb);(try clear hb);(try clear hb2);(try clear hk);(try clear hi);have hcz41_0:w40.cell? ⟨gb553,0,none⟩ = some (.slice A0_0 l0_0.length c0_0):=(blk_cell BK553.out 0).trans rfl;have hfz41_0:=blk_frozen BK553.out 0)|(go_at_call 52;(with_reducible refine (spec_l4Clause.calls k _ _ l0_0 _ _ l2 false _ ?side1 ?side2 ?side3 ?side4 A7.out).mono ?_);(case side1=>exact Yv);(case side2=>exact Yu);(case side3=>exact sC HR2);(case side4=>exact HC2.out);rintro e w42 ⟨rfl,hb⟩;replace BK553:=Aside0.mk (blk_below (bB BK553) hb);replace BK554:=Aside0.mk (blk_below (bB BK554) hb);replace HB:=Aside0.mk (below_step bH hb);(try clear hb);(try clear hb2);(try clear hk);(try clear hi)))
   go_ret2
   exact ⟨Yb,bH⟩
 ·replace c6:=Bool.eq_false_iff.mpr c6
  subst c6
  have H1:(some (false,false)) = some (r1,r2):=by rw [if_neg (show ¬ (false = true) by decide)] at H;exact H
  clear H
  have H:=H1
  clear H1
  simp only [Option.some.injEq,Prod.mk.injEq] at H
  obtain ⟨rfl,rfl⟩:=H
  go_enter Try.func15,Try.ntmps15
  go_wp2_with (first|((with_reducible refine gate_dst (N:=4) rfl ?_);refine box_event ?hg (N:=4) ?hd (cs:=#[.slice A0_0 l0_0.length c0_0]) (t:=26) ?hr ?_;(case hd=>rfl);(case hg=>rfl);(case hr=>exact Yd);intro gb553 hg w43 hbox hb;have BK553:=Aside0.mk (hbox);have GW553:=Aside0.mk ((hZ:w.heap.size ≤ gb553));have GE553:=Aside0.mk ((hZ:w.heap.size ≤ gb553));replace HB:=Aside0.mk (below_step bH hb);clear hb hbox hg)|((with_reducible refine gate_dst (N:=5) rfl ?_);refine box_event ?hg (N:=5) ?hd (cs:=#[.int .i64 a1_0,.slice A1_1 l1_1.length c1_1]) (t:=31) ?hr ?_;(case hd=>rfl);(case hg=>rfl);(case hr=>exact Yd);intro gb554 hg w44 hbox hb;have BK554:=Aside0.mk (hbox);have GW554:=Aside0.mk ((hZ:w.heap.size ≤ gb554));have GE554:=Aside0.mk ((hZ:w.heap.size ≤ gb554));replace HB:=Aside0.mk (below_step bH hb);have NB553_554:=Aside0.mk ((nL BK553:gb553 ≠ gb554));have NB554_553:=Aside0.mk ((nG BK553:gb554 ≠ gb553));replace BK553:=Aside0.mk (blk_below (bB BK553) hb);clear hb hbox hg;have hnb45:=NB553_554.out;have hnc45:=NB554_553.out;have hcz46_0:w44.cell? ⟨gb553,0,none⟩ = some (.slice A0_0 l0_0.length c0_0):=(blk_cell BK553.out 0).trans rfl;have hfz46_0:=blk_frozen BK553.out 0;have hcz47_0:w44.cell? ⟨gb554,0,none⟩ = some (.int .i64 a1_0):=(blk_cell BK554.out 0).trans rfl;have hcz47_1:w44.cell? ⟨gb554,1,none⟩ = some (.slice A1_1 l1_1.length c1_1):=(blk_cell BK554.out 1).trans rfl;have hfz47_0:=blk_frozen BK554.out 0;have hfz47_1:=blk_frozen BK554.out 1)|((with_reducible refine gate_callee (f:=17) rfl ?_);refine goesL_ (some 12) rfl rfl Try.func17 (by kernel_rfl) rfl #[.agg #[.slice A0_0 l0_0.length c0_0],.agg #[.int .i64 a1_0,.slice A1_1 l1_1.length c1_1]] rfl Ya ?_;(with_reducible refine (spec_GoodWorld.calls k _ _ l0_0 a1_0 _ _ l1_1 false _ ?side1 ?side2 ?side3 ?side4 A5.out).mono ?_);(case side1=>exact Yv);(case side2=>exact Yu);(case side3=>exact YN);(case side4=>exact YK);rintro e w48 ⟨rfl,hb⟩;refine ⟨_,rfl,?_⟩;replace BK553:=Aside0.mk (blk_below (bB BK553) hb);replace BK554:=Aside0.mk (blk_below (bB BK554) hb);replace HB:=Aside0.mk (below_step bH hb);(try clear hb);(try clear hb2);(try clear hk);(try clear hi)))
  go_ret2
  exact ⟨Yb,bH⟩

end Go.Proofs.Ytmgkflkfoccgkaa.QFnPutFor
