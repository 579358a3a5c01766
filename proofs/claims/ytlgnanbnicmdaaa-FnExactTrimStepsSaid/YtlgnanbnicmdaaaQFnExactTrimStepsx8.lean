-- Written by this session's own program (wip/x/xprint.py, over the kit's printer); Lean checks it.
import Derived.Test.YtlgnanbnicmdaaaQFnExactTrimStepsx0
import Derived.Test.YtlgnanbnicmdaaaQFnExactTrimStepsx7
namespace Go.Proofs.Ytlgnanbnicmdaaa.QFnExactTrimSteps
open Go.RowKit Go.Proofs.YtlgnanbnicmdaaaW.PrintWords Go.Proofs.YtlgnanbnicmdaaaW.PrintLast Go.Proofs.YtlgnanbnicmdaaaW.PrintMore
attribute [local go_sem] max2_int min2_int max_two min_two max_three min_three max_four min_four   -- for this text's walks alone
set_option linter.unusedVariables false
set_option linter.unusedSimpArgs false

/-! ### spec_l4Own: function 107 -/
def spec_l4Own.l0:Nat → List (S72) → List (S72) → Int → Int → Option ((List (S72)))
 | 0,_,_,_,_=>none
 | k + 1,x3,x6,x7,x8=>if x8 < x7 then (if 0 ≤ x8 then (if x8 < (x6.length:Int) then ((spec_l1Own.f ((rd_T72 x6 x8).f1)).bind fun t254=>((spec_l1Own.f ((rd_T72 x6 x8).f2)).bind fun t257=>(if x3.length < 2513169434916 then (spec_l4Own.l0 k (x3 ++ [(⟨(rd_T72 x6 x8).f0,t254,t257⟩:S72)]) x6 x7 (wrap64 (x8 + 1))) else (none)))) else (none)) else (none)) else (some x3)
def spec_l4Own.f (k:Nat) (l0:List (S72)):Option ((List (S72))):=spec_l4Own.l0 k ([]:List (S72)) l0 (l0.length:Int) 0
theorem spec_l4Own.mono_l:∀ k,(∀ y0 y1 y2 y3,LeO (spec_l4Own.l0 k y0 y1 y2 y3) (spec_l4Own.l0 (k + 1) y0 y1 y2 y3))
 | 0=>fun _ _ _ _ r h=>by simp [spec_l4Own.l0] at h
 | k + 1=>by
  have ih0:=spec_l4Own.mono_l k
  ·intro y0 y1 y2 y3
   unfold spec_l4Own.l0
   repeat' first
   | (with_reducible exact ih0 _ _ _ _)
   | (with_reducible exact LeO.refl _)
   | (with_reducible exact LeO.none _)
   | (with_reducible refine LeO.ite ?_ ?_)
   | (with_reducible refine LeO.bind ?_ (fun _=>?_))
   | exact ih0 _ _ _ _
   | exact LeO.none _
   | refine LeO.ite ?_ ?_
   | refine LeO.bind ?_ (fun _=>?_)
theorem spec_l4Own.mono:∀ a0 k,LeO (spec_l4Own.f k a0) (spec_l4Own.f (k + 1) a0):=by
 intro a0 k
 have ih0:=spec_l4Own.mono_l k
 unfold spec_l4Own.f
 repeat' first
   | (with_reducible exact ih0 _ _ _ _)
   | (with_reducible exact LeO.refl _)
   | (with_reducible exact LeO.none _)
   | (with_reducible refine LeO.ite ?_ ?_)
   | (with_reducible refine LeO.bind ?_ (fun _=>?_))
   | exact ih0 _ _ _ _
   | exact LeO.none _
   | refine LeO.ite ?_ ?_
   | refine LeO.bind ?_ (fun _=>?_)
def spec_l4Own.T5:Bool × List (List Nat × List Nat):=(true,[([],[]),([],[]),([1],[1]),([],[]),([3],[3]),([4],[4]),([],[]),([6],[6]),([7,5],[7]),([2,5,8],[2,5,8]),([9],[9]),([0,10,8],[0,10]),([11,11,0,1,2,3,4,5,6,7,8,9,10,11],[0,11])])
def spec_l4Own.B5:List Nat:=[0,0,2,0,8,24,0,64,248,510,1022,2047,4095]
theorem spec_l4Own.tab5:rtab .any (opsOf Try.f107 5) = spec_l4Own.T5:=by kernel_rfl
theorem spec_l4Own.bits5:waitsOk spec_l4Own.T5.2 spec_l4Own.B5 = true:=by kernel_rfl
set_option maxHeartbeats 8000000 in
set_option maxRecDepth 100000 in
theorem spec_l4Own.calls (k:Nat) (A0:Option Addr) (c0:Nat) (l0:List (S72)) (r:List (S72)) (w:World) (hr0:Kd.C k72 w A0 l0.length l0) (hc0:l0.length ≤ c0) (h:spec_l4Own.f k l0 = some r) :
  Calls Try.prog 107 #[.slice A0 l0.length c0] w fun e w'=>∃ v0_:Value,e = .returned (v0_) ∧ Kd.S k72 72 w' w.heap.size (fun _=>True) v0_ r ∧ Below w.heap.size w w':=by
 have hu72:=Try.underlying72
 have HR0:=Aside0.mk hr0
 have HC0:=Aside0.mk hc0
 clear hr0 hc0
 have HB:=Aside0.mk (Below.refl w.heap.size w)
 have H:(spec_l4Own.l0 k ([]:List (S72)) l0 (l0.length:Int) 0) = some r:=h
 clear h
 have H':=Aside0.mk H
 clear H
 go_enter Try.func107,Try.ntmps107
 go_wp2
 go_loopg [3,8] k (fun kq v3 v8 w'=>∃ (x3_1:List (S72)) (x8_1:Int),v8 = .int .i64 x8_1 ∧ Aside0 (spec_l4Own.l0 kq x3_1 l0 (l0.length:Int) x8_1 = some r) ∧ Aside0 (kq ≤ k) ∧ Aside0 (Kd.S k72 72 w' w.heap.size (fun _=>True) v3 x3_1) ∧ Aside0 (Below w.heap.size w w'))
 case atStart=>exact ⟨(([]:List (S72))),(0),(by first|rfl|(simp;done)|(simp [*];done)),H',⟨Nat.le_refl _⟩,⟨by first|exact Kd.S_nil _ _ _ _ _|exact Kd.N_nil _ _ _ _ _|exact Kd.V_nil _ _ _ _ _|exact Kd.Q_nil _ _ _ _ _|exact Kd.R_nil _ _ _ _ _⟩,⟨by repeat (first|(with_reducible first|exact HB.out|apply below_alloc|apply pw_below_drewN|apply below_drew1)|exact HB.out)⟩⟩
 case round =>
  clear H'
  try clear c1
  obtain ⟨x3_1,x8_1,rfl,HA,HK1,HO_3,HB⟩:=hrel
  cases gk with
  | zero=>exact absurd HA.out (by simp [spec_l4Own.l0])
  | succ k1 =>
   have H:=HA.out
   clear HA
   simp only [spec_l4Own.l0] at H
   by_cases c2:x8_1 < (l0.length:Int)
   ·rw [if_pos c2] at H
    have c2b0:decide (x8_1 < (l0.length:Int)) = true:=decide_eq_true c2
    clear c2
    by_cases c3:0 ≤ x8_1
    ·rw [if_pos c3] at H
     have c3b0:decide (0 ≤ x8_1) = true:=decide_eq_true c3
     clear c3
     by_cases c4:x8_1 < (l0.length:Int)
     ·rw [if_pos c4] at H
      have c4b0:decide (x8_1 < (l0.length:Int)) = true:=decide_eq_true c4
      clear c4
      replace H:=Option.bind_eq_some_iff.mp H
      obtain ⟨t254,A50,H⟩:=H
      replace H:((spec_l1Own.f ((rd_T72 l0 x8_1).f2)).bind fun t257=>(if x3_1.length < 2513169434916 then (spec_l4Own.l0 k1 (x3_1 ++ [(⟨(rd_T72 l0 x8_1).f0,t254,t257⟩:S72)]) l0 (l0.length:Int) (wrap64 (x8_1 + 1))) else (none))) = some r:=H
      have A5:=Aside0.mk A50
      clear A50
      replace H:=Option.bind_eq_some_iff.mp H
      obtain ⟨t257,A60,H⟩:=H
      replace H:(if x3_1.length < 2513169434916 then (spec_l4Own.l0 k1 (x3_1 ++ [(⟨(rd_T72 l0 x8_1).f0,t254,t257⟩:S72)]) l0 (l0.length:Int) (wrap64 (x8_1 + 1))) else (none)) = some r:=H
      have A6:=Aside0.mk A60
      clear A60
      by_cases c7:x3_1.length < 2513169434916
      ·rw [if_pos c7] at H
       have LMc7:=Aside0.mk c7
       clear c7
       obtain ⟨y260,hy260⟩:∃ y_:List (S72),y_ = (x3_1 ++ [(⟨(rd_T72 l0 x8_1).f0,t254,t257⟩:S72)]):=⟨_,rfl⟩
       replace H:(spec_l4Own.l0 k1 y260 l0 (l0.length:Int) (wrap64 (x8_1 + 1))) = some r:=by first|(rw [hy260];with_reducible exact H)|(have H2_:=(Option.bind_some _ _).symm.trans H;rw [hy260];with_reducible exact H2_)|(have H2_:=(Option.bind_some _ _).symm.trans H;with_reducible exact H2_)|with_reducible exact H|(rw [hy260];exact H)|exact H
       have Ny260:=Aside0.mk hy260
       clear hy260
       have H':=Aside0.mk H
       clear H
       have p252:0 ≤ (x8_1:Int):=of_decide_eq_true (by first|(with_reducible assumption)|assumption)
       have q252:x8_1 < (l0.length:Int):=of_decide_eq_true (by first|(with_reducible assumption)|assumption)
       obtain ⟨ad252,A252_1,c252_1,A252_2,c252_2,e252,hx252_0,hx252_1,hx252_2,hl252_1,hi252_1,hl252_2,hi252_2⟩:=at_T72 HR0.out x8_1 p252 q252
       cases e252
       replace hx252_0:=(HB.out.cell (World.block_lt_of_cell? w _ hx252_0)).trans hx252_0
       replace hx252_1:=(HB.out.cell (World.block_lt_of_cell? w _ hx252_1)).trans hx252_1
       replace hx252_2:=(HB.out.cell (World.block_lt_of_cell? w _ hx252_2)).trans hx252_2
       have HR252_1:=Aside0.mk hi252_1
       have HC252_1:=Aside0.mk hl252_1
       clear hi252_1 hl252_1
       have HR252_2:=Aside0.mk hi252_2
       have HC252_2:=Aside0.mk hl252_2
       clear hi252_2 hl252_2
       replace p252:=eq_true p252
       replace q252:=eq_true q252
       try go_wp2_with (first|((with_reducible refine gate_dst (N:=5) rfl ?_);refine box_event ?hg (N:=5) ?hd (cs:=#[.bool false,.slice none 0 0,.slice none 0 0]) (t:=72) ?hr ?_;(case hd=>rfl);(case hg=>rfl);(case hr=>first|(go_simp;done)|(go_simp;rfl));intro gb253 hg w8 hbox hb;have n0_:=Aside0.mk (Kd.S_below (Kd.S_elderB (by (with_reducible repeat (first|apply Kd.S_alloc|apply Kd.S_drewN|apply Kd.S_drew));exact HO_3.out) gb253 (Nat.le_of_eq hg.symm)) hb);have n1_:=Aside0.mk (below_step (by repeat (first|(with_reducible first|exact HB.out|apply below_alloc|apply pw_below_drewN|apply below_drew1)|exact HB.out)) hb);have n2_:=Aside0.mk (hbox);have n3_:=Aside0.mk ((by rw [hg];exact (below_size (by repeat (first|(with_reducible first|exact HB.out|apply below_alloc|apply pw_below_drewN|apply below_drew1)|exact HB.out))):w.heap.size ≤ gb253));have n4_:=Aside0.mk ((by rw [hg];exact (below_size (by repeat (first|(with_reducible first|exact HB.out|apply below_alloc|apply pw_below_drewN|apply below_drew1)|exact HB.out))):w.heap.size ≤ gb253));clear HO_3;clear HB;have HO_3:=n0_;have HB:=n1_;have BK253:=n2_;have GW253:=n3_;have GE253:=n4_;clear n0_ n1_ n2_ n3_ n4_;clear hb hbox hg;have hcz9_0:w8.cell? ⟨gb253,0,none⟩ = some (.bool false):=(blk_cell BK253.out 0).trans rfl;have hcz9_1:w8.cell? ⟨gb253,1,none⟩ = some (.slice none 0 0):=(blk_cell BK253.out 1).trans rfl;have hcz9_2:w8.cell? ⟨gb253,2,none⟩ = some (.slice none 0 0):=(blk_cell BK253.out 2).trans rfl;have hfz9_0:=blk_frozen BK253.out 0;have hfz9_1:=blk_frozen BK253.out 1;have hfz9_2:=blk_frozen BK253.out 2))
       have n0_:Aside0 (Kd.S k72 72 (((w8.setCell ⟨gb253,0,none⟩ (.bool ((rd_T72 l0 x8_1).f0))).setCell ⟨gb253,1,none⟩ (.slice A252_1 ((rd_T72 l0 x8_1).f1).length c252_1)).setCell ⟨gb253,2,none⟩ (.slice A252_2 ((rd_T72 l0 x8_1).f2).length c252_2)) w.heap.size (fun k_=>k_ ≠ gb253) u3 x3_1):=⟨by (with_reducible repeat (first|apply Kd.S_alloc|apply Kd.S_drewN|apply Kd.S_drew));exact Kd.S_mono (Kd.S_far (p:=⟨gb253,2,none⟩) (Kd.S_far (p:=⟨gb253,1,none⟩) (Kd.S_far (p:=⟨gb253,0,none⟩) (Kd.S_mono HO_3.out (fun k_ hk=>(⟨hk,hk.2⟩:_ ∧ k_ ≠ gb253))) (fun _ hk=>hk.2) (.bool ((rd_T72 l0 x8_1).f0))) (fun _ hk=>hk.2) (.slice A252_1 ((rd_T72 l0 x8_1).f1).length c252_1)) (fun _ hk=>hk.2) (.slice A252_2 ((rd_T72 l0 x8_1).f2).length c252_2)) (fun _ hk=>hk.1.2)⟩
       have n1_:Aside0 ((((w8.setCell ⟨gb253,0,none⟩ (.bool ((rd_T72 l0 x8_1).f0))).setCell ⟨gb253,1,none⟩ (.slice A252_1 ((rd_T72 l0 x8_1).f1).length c252_1)).setCell ⟨gb253,2,none⟩ (.slice A252_2 ((rd_T72 l0 x8_1).f2).length c252_2)).heap[gb253]? = some (.cells #[.bool ((rd_T72 l0 x8_1).f0),.slice A252_1 ((rd_T72 l0 x8_1).f1).length c252_1,.slice A252_2 ((rd_T72 l0 x8_1).f2).length c252_2] 72 (0,0))):=⟨by (with_reducible repeat (first|refine blk_drewN ?_ _|refine blk_drew ?_|refine blk_alloc ?_ _));refine blk_put (cs:=#[.bool ((rd_T72 l0 x8_1).f0),.slice A252_1 ((rd_T72 l0 x8_1).f1).length c252_1,.slice none 0 0]) ?_ 2 _ rfl;(with_reducible repeat (first|refine blk_drewN ?_ _|refine blk_drew ?_|refine blk_alloc ?_ _));refine blk_put (cs:=#[.bool ((rd_T72 l0 x8_1).f0),.slice none 0 0,.slice none 0 0]) ?_ 1 _ rfl;(with_reducible repeat (first|refine blk_drewN ?_ _|refine blk_drew ?_|refine blk_alloc ?_ _));refine blk_put (cs:=#[.bool false,.slice none 0 0,.slice none 0 0]) ?_ 0 _ rfl;(with_reducible repeat (first|refine blk_drewN ?_ _|refine blk_drew ?_|refine blk_alloc ?_ _));exact BK253.out⟩
       have n2_:Aside0 (Below w.heap.size w (((w8.setCell ⟨gb253,0,none⟩ (.bool ((rd_T72 l0 x8_1).f0))).setCell ⟨gb253,1,none⟩ (.slice A252_1 ((rd_T72 l0 x8_1).f1).length c252_1)).setCell ⟨gb253,2,none⟩ (.slice A252_2 ((rd_T72 l0 x8_1).f2).length c252_2))):=⟨by repeat (first|(with_reducible first|exact HB.out|apply below_alloc|apply pw_below_drewN|apply below_drew1|refine below_set ?_ GE253.out)|exact HB.out)⟩
       (try clear HO_3)
       (try clear BK253)
       (try clear HB)
       generalize (((w8.setCell ⟨gb253,0,none⟩ (.bool ((rd_T72 l0 x8_1).f0))).setCell ⟨gb253,1,none⟩ (.slice A252_1 ((rd_T72 l0 x8_1).f1).length c252_1)).setCell ⟨gb253,2,none⟩ (.slice A252_2 ((rd_T72 l0 x8_1).f2).length c252_2)) = w10 at n0_ n1_ n2_ ⊢
       have HO_3:=n0_
       have BK253:=n1_
       have HB:=n2_
       clear n0_ n1_ n2_
       have n0_:=Aside0.mk (Kd.S_drew HO_3.out)
       have n1_:=Aside0.mk (blk_drew BK253.out)
       have n2_:=Aside0.mk (below_drew1 HB.out)
       clear HO_3
       clear BK253
       clear HB
       have HO_3:=n0_
       have BK253:=n1_
       have HB:=n2_
       clear n0_ n1_ n2_
       refine start_ (n:=13) (S:=fun w'=>w'.cell? ⟨gb253,0,none⟩ = some (.bool ((rd_T72 l0 x8_1).f0)) ∧ w'.cell? ⟨gb253,1,none⟩ = some (.slice A252_1 ((rd_T72 l0 x8_1).f1).length c252_1) ∧ w'.cell? ⟨gb253,2,none⟩ = some (.slice A252_2 ((rd_T72 l0 x8_1).f2).length c252_2)) (ds:=[]) #[false,false,false,false,false,false,false,false,false,false,false,false,false] (by kernel_rfl) rfl rfl ⟨(blk_cell BK253.out 0).trans rfl,(blk_cell BK253.out 1).trans rfl,(blk_cell BK253.out 2).trans rfl⟩ (fun hHeld=>?_);refine with_tabW spec_l4Own.tab5 spec_l4Own.bits5 (fun HT_ HW_=>?_)
       generalize w10.drew = w11 at HO_3 BK253 HB hHeld ⊢
       refine pure_ (i:=0) (N:=some 12) (v:=?_) (a':=?_) #[true,false,false,false,false,false,false,false,false,false,false,false,false] rfl rfl (any_of HT_.out (by kernel_rfl)) (fun _ _ _ h=>h) (Or.inl ⟨by rfl,?_⟩) ?_ ?_
       rotate_left
       ·intro w'
        go_simp
        with_reducible rfl
       rotate_left
       ·simp only [Act.put,List.setIfInBounds_toArray,List.set_cons_zero,List.set_cons_succ,i64_w,i32_w]
        rfl
       refine pure_ (i:=1) (N:=some 13) (v:=?_) (a':=?_) #[true,true,false,false,false,false,false,false,false,false,false,false,false] rfl rfl (any_of HT_.out (by kernel_rfl)) (fun _ _ _ h=>h) (Or.inl ⟨by rfl,?_⟩) ?_ ?_
       rotate_left
       ·intro w'
        go_simp
        with_reducible rfl
       rotate_left
       ·simp only [Act.put,List.setIfInBounds_toArray,List.set_cons_zero,List.set_cons_succ,i64_w,i32_w]
        rfl
       refine pure_ (i:=3) (N:=some 15) (v:=?_) (a':=?_) #[true,true,false,true,false,false,false,false,false,false,false,false,false] rfl rfl (any_of HT_.out (by kernel_rfl)) (fun _ _ _ h=>h) (Or.inl ⟨by rfl,?_⟩) ?_ ?_
       rotate_left
       ·intro w'
        go_simp
        with_reducible rfl
       rotate_left
       ·simp only [Act.put,List.setIfInBounds_toArray,List.set_cons_zero,List.set_cons_succ,i64_w,i32_w]
        rfl
       refine pure_ (i:=6) (N:=some 18) (v:=?_) (a':=?_) #[true,true,false,true,false,false,true,false,false,false,false,false,false] rfl rfl (any_of HT_.out (by kernel_rfl)) (fun _ _ _ h=>h) (Or.inl ⟨by rfl,?_⟩) ?_ ?_
       rotate_left
       ·intro w'
        go_simp
        with_reducible rfl
       rotate_left
       ·simp only [Act.put,List.setIfInBounds_toArray,List.set_cons_zero,List.set_cons_succ,i64_w,i32_w]
        rfl
       refine take_ (i:=2) (N:=some 14) (v:=?_) (a':=?_) #[true,true,true,true,false,false,true,false,false,false,false,false,false] rfl rfl (take_ofW HT_.out HW_.out (by kernel_rfl)) (fun _ _ _ h=>h) (Or.inl ⟨by rfl,?_⟩) hHeld ?_ ?_
       rotate_left
       ·rintro w' ⟨s0,s1,s2⟩
        go_simp
        with_reducible rfl
       rotate_left
       ·simp only [Act.put,List.setIfInBounds_toArray,List.set_cons_zero,List.set_cons_succ,i64_w,i32_w]
        rfl
       refine take_ (i:=4) (N:=some 16) (v:=?_) (a':=?_) #[true,true,true,true,true,false,true,false,false,false,false,false,false] rfl rfl (take_ofW HT_.out HW_.out (by kernel_rfl)) (fun _ _ _ h=>h) (Or.inl ⟨by rfl,?_⟩) hHeld ?_ ?_
       rotate_left
       ·rintro w' ⟨s0,s1,s2⟩
        go_simp
        with_reducible rfl
       rotate_left
       ·simp only [Act.put,List.setIfInBounds_toArray,List.set_cons_zero,List.set_cons_succ,i64_w,i32_w]
        rfl
       refine take_ (i:=7) (N:=some 19) (v:=?_) (a':=?_) #[true,true,true,true,true,false,true,true,false,false,false,false,false] rfl rfl (take_ofW HT_.out HW_.out (by kernel_rfl)) (fun _ _ _ h=>h) (Or.inl ⟨by rfl,?_⟩) hHeld ?_ ?_
       rotate_left
       ·rintro w' ⟨s0,s1,s2⟩
        go_simp
        with_reducible rfl
       rotate_left
       ·simp only [Act.put,List.setIfInBounds_toArray,List.set_cons_zero,List.set_cons_succ,i64_w,i32_w]
        rfl
       refine one_ (i:=5) (N:=some 17) #[true,true,true,true,true,true,true,true,false,false,false,false,false] rfl rfl (one_of HT_.out (by kernel_rfl)) (by decide) (fun K hK=>?_)
       refine goes_ Try.func106 (by kernel_rfl) rfl #[.slice A252_1 ((rd_T72 l0 x8_1).f1).length c252_1] (by rfl) rfl rfl (by (try simp only [List.map_toArray,List.map_cons,List.map_nil]);first|done|rfl|(simp only [List.length_drop,List.length_take];rfl)) ?_
       with_reducible refine (spec_l1Own.calls _ _ ((rd_T72 l0 x8_1).f1) t254 _ ?side1 ?side2 A5.out).mono ?_
       (case side1=>repeat (first|exact (Kd.C_below HR252_1.out HB.out)|(with_reducible refine Kd.C_alloc ?_ _)|(with_reducible refine Kd.C_drewN ?_ _)|(with_reducible refine Kd.C_drew ?_)))
       (case side2=>exact HC252_1.out)
       rintro e w12 ⟨v255,rfl,ho0,hb⟩
       refine ⟨_,rfl,?_⟩
       have n0_:=Aside0.mk (Kd.S_elder' (by (with_reducible repeat (first|apply Kd.S_alloc|apply Kd.S_drewN|apply Kd.S_drew));exact HO_3.out) (Kd.R_base ho0) hb)
       have n1_:=Aside0.mk (Kd.R_lower ho0 (below_size (by repeat (first|(with_reducible first|exact HB.out|apply below_alloc|apply pw_below_drewN|apply below_drew1|refine below_set ?_ GE253.out)|exact HB.out))))
       have n2_:=Aside0.mk (blk_below (g:=gb253) (o:=.cells #[.bool ((rd_T72 l0 x8_1).f0),.slice A252_1 ((rd_T72 l0 x8_1).f1).length c252_1,.slice A252_2 ((rd_T72 l0 x8_1).f2).length c252_2] 72 (0,0)) (by (with_reducible repeat (first|refine blk_drewN ?_ _|refine blk_drew ?_|refine blk_alloc ?_ _));exact BK253.out) hb)
       have n3_:=Aside0.mk (below_step (by repeat (first|(with_reducible first|exact HB.out|apply below_alloc|apply pw_below_drewN|apply below_drew1|refine below_set ?_ GE253.out)|exact HB.out)) hb)
       clear HO_3
       clear BK253
       clear HB
       have HO_3:=n0_
       have HO256:=n1_
       have BK253:=n2_
       have HB:=n3_
       clear n0_ n1_ n2_ n3_
       (try clear hb)
       (try clear hb2)
       (try clear hk)
       (try clear hi)
       (try clear ho0)
       refine hK.out _ _ ⟨(blk_cell BK253.out 0).trans rfl,(blk_cell BK253.out 1).trans rfl,(blk_cell BK253.out 2).trans rfl⟩ (fun hHeld=>?_)
       clear hK K
       refine norm_ (a':=?_) ?_ ?_
       rotate_left
       ·show Act.put _ (some 17) _ = _
        simp only [Act.put,List.setIfInBounds_toArray,List.set_cons_zero,List.set_cons_succ,i64_w,i32_w]
        rfl
       refine one_ (i:=8) (N:=some 20) #[true,true,true,true,true,true,true,true,true,false,false,false,false] rfl rfl (one_of HT_.out (by kernel_rfl)) (by decide) (fun K hK=>?_)
       refine goes_ Try.func106 (by kernel_rfl) rfl #[.slice A252_2 ((rd_T72 l0 x8_1).f2).length c252_2] (by rfl) rfl rfl (by (try simp only [List.map_toArray,List.map_cons,List.map_nil]);first|done|rfl|(simp only [List.length_drop,List.length_take];rfl)) ?_
       with_reducible refine (spec_l1Own.calls _ _ ((rd_T72 l0 x8_1).f2) t257 _ ?side1 ?side2 A6.out).mono ?_
       (case side1=>repeat (first|exact (Kd.C_below HR252_2.out HB.out)|(with_reducible refine Kd.C_alloc ?_ _)|(with_reducible refine Kd.C_drewN ?_ _)|(with_reducible refine Kd.C_drew ?_)))
       (case side2=>exact HC252_2.out)
       rintro e w13 ⟨v258,rfl,ho0,hb⟩
       refine ⟨_,rfl,?_⟩
       have n0_:=Aside0.mk (Kd.S_elder' (by (with_reducible repeat (first|apply Kd.S_alloc|apply Kd.S_drewN|apply Kd.S_drew));exact HO_3.out) (Kd.R_base ho0) hb)
       have n1_:=Aside0.mk (Kd.R_elder' (by (with_reducible repeat (first|apply Kd.R_alloc|apply Kd.R_drewN|apply Kd.R_drew));exact HO256.out) (Kd.R_base ho0) hb)
       have n2_:=Aside0.mk (Kd.R_lower (Kd.R_new' ho0 (Kd.R_lt (by (with_reducible repeat (first|apply Kd.R_alloc|apply Kd.R_drewN|apply Kd.R_drew));exact HO256.out))) (below_size (by repeat (first|(with_reducible first|exact HB.out|apply below_alloc|apply pw_below_drewN|apply below_drew1|refine below_set ?_ GE253.out)|exact HB.out))))
       have n3_:=Aside0.mk (blk_below (g:=gb253) (o:=.cells #[.bool ((rd_T72 l0 x8_1).f0),.slice A252_1 ((rd_T72 l0 x8_1).f1).length c252_1,.slice A252_2 ((rd_T72 l0 x8_1).f2).length c252_2] 72 (0,0)) (by (with_reducible repeat (first|refine blk_drewN ?_ _|refine blk_drew ?_|refine blk_alloc ?_ _));exact BK253.out) hb)
       have n4_:=Aside0.mk (below_step (by repeat (first|(with_reducible first|exact HB.out|apply below_alloc|apply pw_below_drewN|apply below_drew1|refine below_set ?_ GE253.out)|exact HB.out)) hb)
       clear HO_3
       clear HO256
       clear BK253
       clear HB
       have HO_3:=n0_
       have HO256:=n1_
       have HO259:=n2_
       have BK253:=n3_
       have HB:=n4_
       clear n0_ n1_ n2_ n3_ n4_
       (try clear hb)
       (try clear hb2)
       (try clear hk)
       (try clear hi)
       (try clear ho0)
       obtain ⟨Ao14,co14,eo14⟩:=Kd.R_slice HO259.out
       (first|subst eo14|(injection eo14 with f1_ f2_ f3_;have f4_:=f1_.symm;have f5_:=f3_.symm;clear f1_ f2_ f3_;subst f4_;subst f5_))
       obtain ⟨Ao15,co15,eo15⟩:=Kd.R_slice HO256.out
       (first|subst eo15|(injection eo15 with f1_ f2_ f3_;have f4_:=f1_.symm;have f5_:=f3_.symm;clear f1_ f2_ f3_;subst f4_;subst f5_))
       refine hK.out _ _ ⟨(blk_cell BK253.out 0).trans rfl,(blk_cell BK253.out 1).trans rfl,(blk_cell BK253.out 2).trans rfl⟩ (fun hHeld=>?_)
       clear hK K
       refine norm_ (a':=?_) ?_ ?_
       rotate_left
       ·show Act.put _ (some 20) _ = _
        simp only [Act.put,List.setIfInBounds_toArray,List.set_cons_zero,List.set_cons_succ,i64_w,i32_w]
        rfl
       refine pure_ (i:=9) (N:=some 21) (v:=?_) (a':=?_) #[true,true,true,true,true,true,true,true,true,true,false,false,false] rfl rfl (any_of HT_.out (by kernel_rfl)) (fun _ _ _ h=>h) (Or.inl ⟨by rfl,?_⟩) ?_ ?_
       rotate_left
       ·intro w'
        go_simp
        with_reducible rfl
       rotate_left
       ·simp only [Act.put,List.setIfInBounds_toArray,List.set_cons_zero,List.set_cons_succ,i64_w,i32_w]
        rfl
       refine one_ (i:=10) (N:=some 22) #[true,true,true,true,true,true,true,true,true,true,true,false,false] rfl rfl (one_of HT_.out (by kernel_rfl)) (by decide) (fun K hK=>?_)
       refine value_ (w1:=?_) (v:=?_) (by rfl) rfl ?_ ?_
       rotate_left 2
       ·go_simp
        constructor
        ·rfl
        ·rfl
       refine hK.out _ _ ⟨(blk_cell (blk_alloc BK253.out _) 0).trans rfl,(blk_cell (blk_alloc BK253.out _) 1).trans rfl,(blk_cell (blk_alloc BK253.out _) 2).trans rfl⟩ (fun hHeld=>?_)
       clear hK K
       refine norm_ (a':=?_) ?_ ?_
       rotate_left
       ·show Act.put _ (some 22) _ = _
        simp only [Act.put,List.setIfInBounds_toArray,List.set_cons_zero,List.set_cons_succ,i64_w,i32_w]
        rfl
       refine one_ (i:=11) (N:=some 23) #[true,true,true,true,true,true,true,true,true,true,true,true,false] rfl rfl (one_of HT_.out (by kernel_rfl)) (by decide) (fun K hK=>?_)
       refine Kd.S_append_step k72 (w0:=w) w.heap.size (by rfl) (.tmp 12) (.tmp 22) 32 72 (.agg #[(.bool false),(.slice none 0 0),(.slice none 0 0)]) 56 rfl Try.underlying32 info72 rfl (by decide) (by first|decide|omega) u3 x3_1 (⟨(rd_T72 l0 x8_1).f0,t254,t257⟩:S72) [.bool ((rd_T72 l0 x8_1).f0),.slice Ao15 t254.length co15,.slice Ao14 t257.length co14] (fun k_=>k_ ≠ gb253) (fun k_=>some k_ = (.slice Ao15 t254.length co15:Value).ownBlock ∨ some k_ = (.slice Ao14 t257.length co14:Value).ownBlock) rfl rfl ?aP (fun k_ hk_=>hk_.elim (fun h_=>((Kd.R_mono (ok':=fun k_=>((fun k_=>k_ ≠ gb253)) k_ ∧ some k_ ≠ (u3:Value).ownBlock) (Kd.R_types (Kd.R_apart' (HO256.out) (Kd.S_typed HO_3.out) (by decide)) BK253.out (by decide)) (fun k_ hk=>⟨hk.2,hk.1.2⟩))).1 k_ h_.symm) (fun h_=>((Kd.R_mono (ok':=fun k_=>((fun k_=>k_ ≠ gb253)) k_ ∧ some k_ ≠ (u3:Value).ownBlock) (Kd.R_types (Kd.R_apart' (HO259.out) (Kd.S_typed HO_3.out) (by decide)) BK253.out (by decide)) (fun k_ hk=>⟨hk.2,hk.1.2⟩))).1 k_ h_.symm)) ?aF ?aO ?aB ?aS ?aL ?_
       (case aP=>exact k72_mkM _ _ _ (⟨(rd_T72 l0 x8_1).f0,t254,t257⟩:S72) (Kd.R_mono (Kd.R_tight rfl (Kd.R_mono (ok':=fun k_=>((fun k_=>k_ ≠ gb253)) k_ ∧ some k_ ≠ (u3:Value).ownBlock) (Kd.R_types (Kd.R_apart' (HO256.out) (Kd.S_typed HO_3.out) (by decide)) BK253.out (by decide)) (fun k_ hk=>⟨hk.2,hk.1.2⟩))) (fun _ h_=>Or.inl h_)) (Kd.R_mono (Kd.R_tight rfl (Kd.R_mono (ok':=fun k_=>((fun k_=>k_ ≠ gb253)) k_ ∧ some k_ ≠ (u3:Value).ownBlock) (Kd.R_types (Kd.R_apart' (HO259.out) (Kd.S_typed HO_3.out) (by decide)) BK253.out (by decide)) (fun k_ hk=>⟨hk.2,hk.1.2⟩))) (fun _ h_=>Or.inr (h_))))
       (case aB=>exact (by repeat (first|(with_reducible first|exact HB.out|apply below_alloc|apply pw_below_drewN|apply below_drew1|refine below_set ?_ GE253.out)|exact HB.out)))
       (case aF=>exact (fun k_ hk=>Kd.freshB (g:=gb253) (o:=.cells #[.bool ((rd_T72 l0 x8_1).f0),.slice A252_1 ((rd_T72 l0 x8_1).f1).length c252_1,.slice A252_2 ((rd_T72 l0 x8_1).f2).length c252_2] 72 (0,0)) (by (with_reducible repeat (first|refine blk_drewN ?_ _|refine blk_drew ?_|refine blk_alloc ?_ _));exact BK253.out) k_ hk))
       (case aO=>exact (by (with_reducible repeat (first|apply Kd.S_alloc|apply Kd.S_drewN|apply Kd.S_drew));exact Kd.S_mono HO_3.out (fun k_ hk=>⟨hk.1.1,fun e_=>e_.elim (fun h_=>hk.1.2 h_) (fun h_=>hk.2 h_)⟩)))
       (case aS=>exact (below_size (by repeat (first|(with_reducible first|exact HB.out|apply below_alloc|apply pw_below_drewN|apply below_drew1|refine below_set ?_ GE253.out)|exact HB.out))))
       (case aL=>have:=LMc7.out;omega)
       intro v261 w16 ho hb hg hat
       rw [← Ny260.out] at ho
       have n0_:=Aside0.mk (blk_grown (g:=gb253) (o:=.cells #[.bool ((rd_T72 l0 x8_1).f0),.slice A252_1 ((rd_T72 l0 x8_1).f1).length c252_1,.slice A252_2 ((rd_T72 l0 x8_1).f2).length c252_2] 72 (0,0)) (by (with_reducible repeat (first|refine blk_drewN ?_ _|refine blk_drew ?_|refine blk_alloc ?_ _));exact BK253.out) hg (Kd.S_away HO_3.out (fun _ hk=>hk.1.1)))
       have n1_:=Aside0.mk (hb)
       have n2_:=Aside0.mk (ho)
       clear BK253
       clear HB
       clear HO_3
       clear HO256
       clear HO259
       have BK253:=n0_
       have HB:=n1_
       have HO262:=n2_
       clear n0_ n1_ n2_
       clear ho hb hg hat
       refine hK.out _ _ ⟨(blk_cell BK253.out 0).trans rfl,(blk_cell BK253.out 1).trans rfl,(blk_cell BK253.out 2).trans rfl⟩ (fun hHeld=>?_)
       clear hK K
       refine norm_ (a':=?_) ?_ ?_
       rotate_left
       ·show Act.put _ (some 23) _ = _
        simp only [Act.put,List.setIfInBounds_toArray,List.set_cons_zero,List.set_cons_succ,i64_w,i32_w]
        rfl
       refine pure_ (i:=12) (N:=some 3) (v:=?_) (a':=?_) #[true,true,true,true,true,true,true,true,true,true,true,true,true] rfl rfl (any_of HT_.out (by kernel_rfl)) (fun _ _ _ h=>h) (Or.inl ⟨by rfl,?_⟩) ?_ ?_
       rotate_left
       ·intro w'
        go_simp
        with_reducible rfl
       rotate_left
       ·simp only [Act.put,List.setIfInBounds_toArray,List.set_cons_zero,List.set_cons_succ,i64_w,i32_w]
        rfl
       refine done_ (done_of HT_.out (by kernel_rfl)) ?_
       try go_wp2
       go_roundg k1
       case measure=>have:=HK1.out;omega
       case rel=>exact ⟨(y260),(wrap64 (x8_1 + 1)),(by first|rfl|(simp;done)|(simp [*];done)),H',⟨by have:=HK1.out;omega⟩,⟨by (with_reducible repeat (first|apply Kd.S_alloc|apply Kd.S_drewN|apply Kd.S_drew));exact Kd.S_mono HO262.out (fun _ hk=>trivial)⟩,⟨by repeat (first|(with_reducible first|exact HB.out|apply below_alloc|apply pw_below_drewN|apply below_drew1|refine below_set ?_ GE253.out)|exact HB.out)⟩⟩
      ·rw [if_neg c7] at H
       exact absurd H (by simp)
     ·rw [if_neg c4] at H
      exact absurd H (by simp)
    ·rw [if_neg c3] at H
     exact absurd H (by simp)
   ·rw [if_neg c2] at H
    have c2b0:decide (x8_1 < (l0.length:Int)) = false:=decide_eq_false c2
    clear c2
    obtain rfl:=Option.some.inj H
    go_wp2
    go_ret
    exact ⟨_,by first|rfl|(simp [errW_none,errW_some] <;> rfl)|(simp [*,errW_none,errW_some] <;> rfl),by (with_reducible repeat (first|apply Kd.S_alloc|apply Kd.S_drewN|apply Kd.S_drew));exact HO_3.out,by repeat (first|(with_reducible first|exact HB.out|apply below_alloc|apply pw_below_drewN|apply below_drew1)|exact HB.out)⟩

end Go.Proofs.Ytlgnanbnicmdaaa.QFnExactTrimSteps
