-- Written by this session's own program (wip/x/xprint.py, over the kit's printer); Lean checks it.
import Derived.Test.YtlgnanbnicmdaaaQFnExactSameClausex0
namespace Go.Proofs.Ytlgnanbnicmdaaa.QFnExactSameClause
open Go.RowKit Go.Proofs.YtlgnanbnicmdaaaW.PrintWords Go.Proofs.YtlgnanbnicmdaaaW.PrintLast Go.Proofs.YtlgnanbnicmdaaaW.PrintMore
attribute [local go_sem] max2_int min2_int max_two min_two max_three min_three max_four min_four   -- for this text's walks alone
set_option linter.unusedVariables false
set_option linter.unusedSimpArgs false

/-! ### impl_withTerms: function 117 -/
def impl_withTerms.l0:Nat → List (List Int) → List (S72) → List (S72) → Int → Int → Option ((List (S72)))
 | 0,_,_,_,_,_=>none
 | k + 1,x1,x5,x8,x9,x10=>if x10 < x9 then (if 0 ≤ x10 then (if x10 < (x8.length:Int) then (if 0 ≤ (wrap64 (2 * x10)) then (if (wrap64 (2 * x10)) < (x1.length:Int) then (if 0 ≤ (wrap64 ((wrap64 (2 * x10)) + 1)) then (if (wrap64 ((wrap64 (2 * x10)) + 1)) < (x1.length:Int) then (if x5.length < 2513169434916 then (impl_withTerms.l0 k x1 (x5 ++ [(⟨(rd_T72 x8 x10).f0,rd_L2 x1 (wrap64 (2 * x10)),rd_L2 x1 (wrap64 ((wrap64 (2 * x10)) + 1))⟩:S72)]) x8 x9 (wrap64 (x10 + 1))) else (none)) else (none)) else (none)) else (none)) else (none)) else (none)) else (none)) else (some x5)
def impl_withTerms.f (k:Nat) (l0:List (S72)) (l1:List (List Int)):Option ((List (S72))):=impl_withTerms.l0 k l1 ([]:List (S72)) l0 (l0.length:Int) 0
theorem impl_withTerms.mono_l:∀ k,(∀ y0 y1 y2 y3 y4,LeO (impl_withTerms.l0 k y0 y1 y2 y3 y4) (impl_withTerms.l0 (k + 1) y0 y1 y2 y3 y4))
 | 0=>fun _ _ _ _ _ r h=>by simp [impl_withTerms.l0] at h
 | k + 1=>by
  have ih0:=impl_withTerms.mono_l k
  ·intro y0 y1 y2 y3 y4
   unfold impl_withTerms.l0
   repeat' first
   | (with_reducible exact ih0 _ _ _ _ _)
   | (with_reducible exact LeO.refl _)
   | (with_reducible exact LeO.none _)
   | (with_reducible refine LeO.ite ?_ ?_)
   | (with_reducible refine LeO.bind ?_ (fun _=>?_))
   | exact ih0 _ _ _ _ _
   | exact LeO.none _
   | refine LeO.ite ?_ ?_
   | refine LeO.bind ?_ (fun _=>?_)
theorem impl_withTerms.mono:∀ a0 a1 k,LeO (impl_withTerms.f k a0 a1) (impl_withTerms.f (k + 1) a0 a1):=by
 intro a0 a1 k
 have ih0:=impl_withTerms.mono_l k
 unfold impl_withTerms.f
 repeat' first
   | (with_reducible exact ih0 _ _ _ _ _)
   | (with_reducible exact LeO.refl _)
   | (with_reducible exact LeO.none _)
   | (with_reducible refine LeO.ite ?_ ?_)
   | (with_reducible refine LeO.bind ?_ (fun _=>?_))
   | exact ih0 _ _ _ _ _
   | exact LeO.none _
   | refine LeO.ite ?_ ?_
   | refine LeO.bind ?_ (fun _=>?_)
def impl_withTerms.T5:Bool × List (List Nat × List Nat):=(true,[([],[]),([],[]),([1],[1]),([],[]),([],[]),([4],[4]),([3,5],[3,5]),([6],[6]),([],[]),([],[]),([9],[9]),([10],[10]),([8,11],[8,11]),([12],[12]),([2,7,13],[2,7,13]),([14],[14]),([0,15],[0,15]),([16,16,0,1,2,3,4,5,6,7,8,9,10,11,12,13,14,15,16],[0,16])])
def impl_withTerms.B5:List Nat:=[0,0,2,0,0,16,56,120,0,0,512,1536,3840,7936,16382,32766,65535,131071]
theorem impl_withTerms.tab5:rtab .any (opsOf Try.f117 5) = impl_withTerms.T5:=by kernel_rfl
theorem impl_withTerms.bits5:waitsOk impl_withTerms.T5.2 impl_withTerms.B5 = true:=by kernel_rfl
set_option maxHeartbeats 8000000 in
set_option maxRecDepth 100000 in
theorem impl_withTerms.calls (k:Nat) (A0:Option Addr) (c0:Nat) (l0:List (S72)) (P1_:Nat → Prop) (A1:Option Addr) (c1:Nat) (l1:List (List Int)) (r:List (S72)) (w:World) (hr0:Kd.C k72 w A0 l0.length l0) (hc0:l0.length ≤ c0) (hs1:Kd.V (Kd.slice 3 (Kd.int .i64)) 22 w w.heap.size (fun k_=>P1_ k_) (.slice A1 l1.length c1) l1) (h:impl_withTerms.f k l0 l1 = some r) :
  Calls Try.prog 117 #[.slice A0 l0.length c0,.slice A1 l1.length c1] w fun e w'=>∃ v0_:Value,e = .returned (v0_) ∧ Kd.N k72 72 w' w.heap.size (fun k_=>(P1_ k_ ∨ w.heap.size ≤ k_)) v0_ r ∧ Below w.heap.size w w':=by
 have hu72:=Try.underlying72
 have HR0:=Aside0.mk hr0
 have HC0:=Aside0.mk hc0
 clear hr0 hc0
 have HO1:=Aside0.mk (show Kd.V (Kd.slice 3 (Kd.int .i64)) 22 w w.heap.size (fun k_=>(P1_ k_ ∨ w.heap.size ≤ k_)) (.slice A1 l1.length c1) l1 from Kd.V_mono hs1 (fun k_ hk=>.inl hk))
 have HB:=Aside0.mk (Below.refl w.heap.size w)
 have H:(impl_withTerms.l0 k l1 ([]:List (S72)) l0 (l0.length:Int) 0) = some r:=h
 clear h
 have H':=Aside0.mk H
 clear H
 go_enter Try.func117,Try.ntmps117
 go_wp2
 go_loopg [5,10] k (fun kq v5 v10 w'=>∃ (x5_1:List (S72)) (x10_1:Int),v10 = .int .i64 x10_1 ∧ Aside0 (impl_withTerms.l0 kq l1 x5_1 l0 (l0.length:Int) x10_1 = some r) ∧ Aside0 (kq ≤ k) ∧ Aside0 (Kd.V (Kd.slice 3 (Kd.int .i64)) 22 w' w.heap.size (fun k_=>(P1_ k_ ∨ w.heap.size ≤ k_) ∧ some k_ ≠ (v5:Value).ownBlock) (.slice A1 l1.length c1) l1) ∧ Aside0 (Kd.N k72 72 w' w.heap.size (fun k_=>(P1_ k_ ∨ w.heap.size ≤ k_)) v5 x5_1) ∧ Aside0 (Below w.heap.size w w'))
 case atStart=>exact ⟨(([]:List (S72))),(0),(by first|rfl|(simp;done)|(simp [*];done)),H',⟨Nat.le_refl _⟩,⟨by (with_reducible repeat (first|apply Kd.V_alloc|apply Kd.V_drewN|apply Kd.V_drew));exact Kd.V_mono HO1.out (fun _ hk=>⟨hk,(by simp [Value.ownBlock])⟩)⟩,⟨by first|exact Kd.S_nil _ _ _ _ _|exact Kd.N_nil _ _ _ _ _|exact Kd.V_nil _ _ _ _ _|exact Kd.Q_nil _ _ _ _ _|exact Kd.R_nil _ _ _ _ _⟩,⟨by repeat (first|(with_reducible first|exact HB.out|apply below_alloc|apply pw_below_drewN|apply below_drew1)|exact HB.out)⟩⟩
 case round =>
  clear H'
  try clear c1
  try clear p2
  obtain ⟨x5_1,x10_1,rfl,HA,HK1,HO_1,HO_5,HB⟩:=hrel
  cases gk with
  | zero=>exact absurd HA.out (by simp [impl_withTerms.l0])
  | succ k1 =>
   have H:=HA.out
   clear HA
   simp only [impl_withTerms.l0] at H
   by_cases c3:x10_1 < (l0.length:Int)
   ·rw [if_pos c3] at H
    have c3b0:decide (x10_1 < (l0.length:Int)) = true:=decide_eq_true c3
    clear c3
    by_cases c4:0 ≤ x10_1
    ·rw [if_pos c4] at H
     have c4b0:decide (0 ≤ x10_1) = true:=decide_eq_true c4
     clear c4
     by_cases c5:x10_1 < (l0.length:Int)
     ·rw [if_pos c5] at H
      have c5b0:decide (x10_1 < (l0.length:Int)) = true:=decide_eq_true c5
      clear c5
      obtain ⟨ji6,hji6⟩:∃ j_:Int,(wrap64 (2 * x10_1)) = j_:=⟨_,rfl⟩
      replace H:(if 0 ≤ (ji6) then (if (ji6) < (l1.length:Int) then (if 0 ≤ (wrap64 ((ji6) + 1)) then (if (wrap64 ((ji6) + 1)) < (l1.length:Int) then (if x5_1.length < 2513169434916 then (impl_withTerms.l0 k1 l1 (x5_1 ++ [(⟨(rd_T72 l0 x10_1).f0,rd_L2 l1 (ji6),rd_L2 l1 (wrap64 ((ji6) + 1))⟩:S72)]) l0 (l0.length:Int) (wrap64 (x10_1 + 1))) else (none)) else (none)) else (none)) else (none)) else (none)) = some r:=by first|(rw [hji6] at H;exact H)|(simp only [hji6] at H ⊢;exact H)
      have hji6w:(IntKind.i64.wrap (2 * x10_1)) = ji6:=(i64_w _).trans hji6
      by_cases c7:0 ≤ (ji6)
      ·rw [if_pos c7] at H
       have c7b0:decide (0 ≤ (ji6)) = true:=decide_eq_true c7
       clear c7
       by_cases c8:(ji6) < (l1.length:Int)
       ·rw [if_pos c8] at H
        have c8b0:decide ((ji6) < (l1.length:Int)) = true:=decide_eq_true c8
        clear c8
        obtain ⟨ji9,hji9⟩:∃ j_:Int,(wrap64 ((ji6) + 1)) = j_:=⟨_,rfl⟩
        replace H:(if 0 ≤ (ji9) then (if (ji9) < (l1.length:Int) then (if x5_1.length < 2513169434916 then (impl_withTerms.l0 k1 l1 (x5_1 ++ [(⟨(rd_T72 l0 x10_1).f0,rd_L2 l1 (ji6),rd_L2 l1 (ji9)⟩:S72)]) l0 (l0.length:Int) (wrap64 (x10_1 + 1))) else (none)) else (none)) else (none)) = some r:=by first|(rw [hji9] at H;exact H)|(simp only [hji9] at H ⊢;exact H)
        have hji9w:(IntKind.i64.wrap ((ji6) + 1)) = ji9:=(i64_w _).trans hji9
        by_cases c10:0 ≤ (ji9)
        ·rw [if_pos c10] at H
         have c10b0:decide (0 ≤ (ji9)) = true:=decide_eq_true c10
         clear c10
         by_cases c11:(ji9) < (l1.length:Int)
         ·rw [if_pos c11] at H
          have c11b0:decide ((ji9) < (l1.length:Int)) = true:=decide_eq_true c11
          clear c11
          by_cases c12:x5_1.length < 2513169434916
          ·rw [if_pos c12] at H
           have LMc12:=Aside0.mk c12
           clear c12
           obtain ⟨y232,hy232⟩:∃ y_:List (S72),y_ = (x5_1 ++ [(⟨(rd_T72 l0 x10_1).f0,rd_L2 l1 (ji6),rd_L2 l1 (ji9)⟩:S72)]):=⟨_,rfl⟩
           replace H:(impl_withTerms.l0 k1 l1 y232 l0 (l0.length:Int) (wrap64 (x10_1 + 1))) = some r:=by first|(rw [hy232];with_reducible exact H)|(have H2_:=(Option.bind_some _ _).symm.trans H;rw [hy232];with_reducible exact H2_)|(have H2_:=(Option.bind_some _ _).symm.trans H;with_reducible exact H2_)|with_reducible exact H|(rw [hy232];exact H)|exact H
           have Ny232:=Aside0.mk hy232
           clear hy232
           have H':=Aside0.mk H
           clear H
           have p228:0 ≤ (x10_1:Int):=of_decide_eq_true (by first|(with_reducible assumption)|assumption)
           have q228:x10_1 < (l0.length:Int):=of_decide_eq_true (by first|(with_reducible assumption)|assumption)
           obtain ⟨ad228,A228_1,c228_1,A228_2,c228_2,e228,hx228_0,hx228_1,hx228_2,hl228_1,hi228_1,hl228_2,hi228_2⟩:=at_T72 HR0.out x10_1 p228 q228
           cases e228
           replace hx228_0:=(HB.out.cell (World.block_lt_of_cell? w _ hx228_0)).trans hx228_0
           replace hx228_1:=(HB.out.cell (World.block_lt_of_cell? w _ hx228_1)).trans hx228_1
           replace hx228_2:=(HB.out.cell (World.block_lt_of_cell? w _ hx228_2)).trans hx228_2
           have HR228_1:=Aside0.mk hi228_1
           have HC228_1:=Aside0.mk hl228_1
           clear hi228_1 hl228_1
           have HR228_2:=Aside0.mk hi228_2
           have HC228_2:=Aside0.mk hl228_2
           clear hi228_2 hl228_2
           replace p228:=eq_true p228
           replace q228:=eq_true q228
           try go_wp2_with (first|((with_reducible refine gate_dst (N:=7) rfl ?_);refine box_event ?hg (N:=7) ?hd (cs:=#[.bool false,.slice none 0 0,.slice none 0 0]) (t:=72) ?hr ?_;(case hd=>rfl);(case hg=>rfl);(case hr=>first|(go_simp;done)|(go_simp;rfl));intro gb229 hg w13 hbox hb;have n0_:=Aside0.mk (Kd.V_below (Kd.V_elderB (by (with_reducible repeat (first|apply Kd.V_alloc|apply Kd.V_drewN|apply Kd.V_drew));exact HO_1.out) gb229 (Nat.le_of_eq hg.symm)) hb);have n1_:=Aside0.mk (Kd.N_below (Kd.N_elderB (by (with_reducible repeat (first|apply Kd.N_alloc|apply Kd.N_drewN|apply Kd.N_drew));exact HO_5.out) gb229 (Nat.le_of_eq hg.symm)) hb);have n2_:=Aside0.mk (below_step (by repeat (first|(with_reducible first|exact HB.out|apply below_alloc|apply pw_below_drewN|apply below_drew1)|exact HB.out)) hb);have n3_:=Aside0.mk (hbox);have n4_:=Aside0.mk ((by rw [hg];exact (below_size (by repeat (first|(with_reducible first|exact HB.out|apply below_alloc|apply pw_below_drewN|apply below_drew1)|exact HB.out))):w.heap.size ≤ gb229));have n5_:=Aside0.mk ((by rw [hg];exact (below_size (by repeat (first|(with_reducible first|exact HB.out|apply below_alloc|apply pw_below_drewN|apply below_drew1)|exact HB.out))):w.heap.size ≤ gb229));clear HO_1;clear HO_5;clear HB;have HO_1:=n0_;have HO_5:=n1_;have HB:=n2_;have BK229:=n3_;have GW229:=n4_;have GE229:=n5_;clear n0_ n1_ n2_ n3_ n4_ n5_;clear hb hbox hg;have hcz14_0:w13.cell? ⟨gb229,0,none⟩ = some (.bool false):=(blk_cell BK229.out 0).trans rfl;have hcz14_1:w13.cell? ⟨gb229,1,none⟩ = some (.slice none 0 0):=(blk_cell BK229.out 1).trans rfl;have hcz14_2:w13.cell? ⟨gb229,2,none⟩ = some (.slice none 0 0):=(blk_cell BK229.out 2).trans rfl;have hfz14_0:=blk_frozen BK229.out 0;have hfz14_1:=blk_frozen BK229.out 1;have hfz14_2:=blk_frozen BK229.out 2))
           have n0_:Aside0 (Kd.V (Kd.slice 3 (Kd.int .i64)) 22 (((w13.setCell ⟨gb229,0,none⟩ (.bool ((rd_T72 l0 x10_1).f0))).setCell ⟨gb229,1,none⟩ (.slice A228_1 ((rd_T72 l0 x10_1).f1).length c228_1)).setCell ⟨gb229,2,none⟩ (.slice A228_2 ((rd_T72 l0 x10_1).f2).length c228_2)) w.heap.size (fun k_=>(P1_ k_ ∨ w.heap.size ≤ k_) ∧ some k_ ≠ (u5:Value).ownBlock ∧ k_ ≠ gb229) (.slice A1 l1.length c1) l1):=⟨by (with_reducible repeat (first|apply Kd.V_alloc|apply Kd.V_drewN|apply Kd.V_drew));exact Kd.V_mono (Kd.V_far (p:=⟨gb229,2,none⟩) (Kd.V_far (p:=⟨gb229,1,none⟩) (Kd.V_far (p:=⟨gb229,0,none⟩) (Kd.V_mono HO_1.out (fun k_ hk=>(⟨hk,hk.2⟩:_ ∧ k_ ≠ gb229))) (fun _ hk=>hk.2) (.bool ((rd_T72 l0 x10_1).f0))) (fun _ hk=>hk.2) (.slice A228_1 ((rd_T72 l0 x10_1).f1).length c228_1)) (fun _ hk=>hk.2) (.slice A228_2 ((rd_T72 l0 x10_1).f2).length c228_2)) (fun _ hk=>⟨hk.1.1.1,⟨hk.1.1.2,hk.1.2⟩⟩)⟩
           have n1_:Aside0 (Kd.N k72 72 (((w13.setCell ⟨gb229,0,none⟩ (.bool ((rd_T72 l0 x10_1).f0))).setCell ⟨gb229,1,none⟩ (.slice A228_1 ((rd_T72 l0 x10_1).f1).length c228_1)).setCell ⟨gb229,2,none⟩ (.slice A228_2 ((rd_T72 l0 x10_1).f2).length c228_2)) w.heap.size (fun k_=>(P1_ k_ ∨ w.heap.size ≤ k_) ∧ k_ ≠ gb229) u5 x5_1):=⟨by (with_reducible repeat (first|apply Kd.N_alloc|apply Kd.N_drewN|apply Kd.N_drew));exact Kd.N_mono (Kd.N_far (p:=⟨gb229,2,none⟩) (Kd.N_far (p:=⟨gb229,1,none⟩) (Kd.N_far (p:=⟨gb229,0,none⟩) (Kd.N_mono HO_5.out (fun k_ hk=>(⟨hk,hk.2⟩:_ ∧ k_ ≠ gb229))) (fun _ hk=>hk.2) (.bool ((rd_T72 l0 x10_1).f0))) (fun _ hk=>hk.2) (.slice A228_1 ((rd_T72 l0 x10_1).f1).length c228_1)) (fun _ hk=>hk.2) (.slice A228_2 ((rd_T72 l0 x10_1).f2).length c228_2)) (fun _ hk=>⟨hk.1.1,hk.1.2⟩)⟩
           have n2_:Aside0 ((((w13.setCell ⟨gb229,0,none⟩ (.bool ((rd_T72 l0 x10_1).f0))).setCell ⟨gb229,1,none⟩ (.slice A228_1 ((rd_T72 l0 x10_1).f1).length c228_1)).setCell ⟨gb229,2,none⟩ (.slice A228_2 ((rd_T72 l0 x10_1).f2).length c228_2)).heap[gb229]? = some (.cells #[.bool ((rd_T72 l0 x10_1).f0),.slice A228_1 ((rd_T72 l0 x10_1).f1).length c228_1,.slice A228_2 ((rd_T72 l0 x10_1).f2).length c228_2] 72 (0,0))):=⟨by (with_reducible repeat (first|refine blk_drewN ?_ _|refine blk_drew ?_|refine blk_alloc ?_ _));refine blk_put (cs:=#[.bool ((rd_T72 l0 x10_1).f0),.slice A228_1 ((rd_T72 l0 x10_1).f1).length c228_1,.slice none 0 0]) ?_ 2 _ rfl;(with_reducible repeat (first|refine blk_drewN ?_ _|refine blk_drew ?_|refine blk_alloc ?_ _));refine blk_put (cs:=#[.bool ((rd_T72 l0 x10_1).f0),.slice none 0 0,.slice none 0 0]) ?_ 1 _ rfl;(with_reducible repeat (first|refine blk_drewN ?_ _|refine blk_drew ?_|refine blk_alloc ?_ _));refine blk_put (cs:=#[.bool false,.slice none 0 0,.slice none 0 0]) ?_ 0 _ rfl;(with_reducible repeat (first|refine blk_drewN ?_ _|refine blk_drew ?_|refine blk_alloc ?_ _));exact BK229.out⟩
           have n3_:Aside0 (Below w.heap.size w (((w13.setCell ⟨gb229,0,none⟩ (.bool ((rd_T72 l0 x10_1).f0))).setCell ⟨gb229,1,none⟩ (.slice A228_1 ((rd_T72 l0 x10_1).f1).length c228_1)).setCell ⟨gb229,2,none⟩ (.slice A228_2 ((rd_T72 l0 x10_1).f2).length c228_2))):=⟨by repeat (first|(with_reducible first|exact HB.out|apply below_alloc|apply pw_below_drewN|apply below_drew1|refine below_set ?_ GE229.out)|exact HB.out)⟩
           (try clear HO_1)
           (try clear HO_5)
           (try clear BK229)
           (try clear HB)
           generalize (((w13.setCell ⟨gb229,0,none⟩ (.bool ((rd_T72 l0 x10_1).f0))).setCell ⟨gb229,1,none⟩ (.slice A228_1 ((rd_T72 l0 x10_1).f1).length c228_1)).setCell ⟨gb229,2,none⟩ (.slice A228_2 ((rd_T72 l0 x10_1).f2).length c228_2)) = w15 at n0_ n1_ n2_ n3_ ⊢
           have HO_1:=n0_
           have HO_5:=n1_
           have BK229:=n2_
           have HB:=n3_
           clear n0_ n1_ n2_ n3_
           have n0_:=Aside0.mk (Kd.V_drew HO_1.out)
           have n1_:=Aside0.mk (Kd.N_drew HO_5.out)
           have n2_:=Aside0.mk (blk_drew BK229.out)
           have n3_:=Aside0.mk (below_drew1 HB.out)
           clear HO_1
           clear HO_5
           clear BK229
           clear HB
           have HO_1:=n0_
           have HO_5:=n1_
           have BK229:=n2_
           have HB:=n3_
           clear n0_ n1_ n2_ n3_
           have p230:0 ≤ ((ji6):Int):=of_decide_eq_true (by first|(with_reducible assumption)|assumption)
           have q230:(ji6) < (l1.length:Int):=of_decide_eq_true (by first|(with_reducible assumption)|assumption)
           obtain ⟨ad230,A230_0,c230_0,e230,hx230_0,hl230_0,hi230_0⟩:=at_L2 (Kd.V_reads' HO_1.out).2.2 (ji6) p230 q230
           cases e230
           obtain ⟨ce230,hce230,hMe230,hcc230⟩:=Kd.V_get HO_1.out [] (ji6) p230 (by first|exact q230|exact of_decide_eq_true (by first|(with_reducible assumption)|assumption)|(have e_:=(Kd.V_reads' HO_1.out).1;omega))
           obtain ⟨ua230_0,uc230_0,rfl,ul230_0,ge230_0⟩:=Kd.FK_slice_open hMe230
           have hv230_0:=hcc230 0 _ rfl
           rw [Nat.add_zero,show ((Kd.slice 3 (Kd.int .i64))).sz = 1 from rfl,Nat.mul_one] at hv230_0
           replace hv230_0:=Option.some.inj (hv230_0.symm.trans hx230_0)
           injection hv230_0 with hva_ hvn_ hvc_
           rw [hva_] at ge230_0
           rw [hvc_] at ul230_0
           have HL230_0:=Aside0.mk (show Kd.V (Kd.int .i64) 3 _ w.heap.size _ _ (rd_L2 l1 (ji6)) from Kd.V_mk ul230_0 ge230_0)
           clear hva_ hvn_ hvc_ ge230_0 ul230_0
           clear hcc230 hce230
           have HR230_0:=Aside0.mk hi230_0
           have HC230_0:=Aside0.mk hl230_0
           clear hi230_0 hl230_0
           replace p230:=eq_true p230
           replace q230:=eq_true q230
           have p231:0 ≤ ((ji9):Int):=of_decide_eq_true (by first|(with_reducible assumption)|assumption)
           have q231:(ji9) < (l1.length:Int):=of_decide_eq_true (by first|(with_reducible assumption)|assumption)
           obtain ⟨ad231,A231_0,c231_0,e231,hx231_0,hl231_0,hi231_0⟩:=at_L2 (Kd.V_reads' HO_1.out).2.2 (ji9) p231 q231
           obtain rfl:ad230 = ad231:=(by injection e231)
           obtain ⟨ce231,hce231,hMe231,hcc231⟩:=Kd.V_get HO_1.out [] (ji9) p231 (by first|exact q231|exact of_decide_eq_true (by first|(with_reducible assumption)|assumption)|(have e_:=(Kd.V_reads' HO_1.out).1;omega))
           obtain ⟨ua231_0,uc231_0,rfl,ul231_0,ge231_0⟩:=Kd.FK_slice_open hMe231
           have hv231_0:=hcc231 0 _ rfl
           rw [Nat.add_zero,show ((Kd.slice 3 (Kd.int .i64))).sz = 1 from rfl,Nat.mul_one] at hv231_0
           replace hv231_0:=Option.some.inj (hv231_0.symm.trans hx231_0)
           injection hv231_0 with hva_ hvn_ hvc_
           rw [hva_] at ge231_0
           rw [hvc_] at ul231_0
           have HL231_0:=Aside0.mk (show Kd.V (Kd.int .i64) 3 _ w.heap.size _ _ (rd_L2 l1 (ji9)) from Kd.V_mk ul231_0 ge231_0)
           clear hva_ hvn_ hvc_ ge231_0 ul231_0
           clear hcc231 hce231
           have HR231_0:=Aside0.mk hi231_0
           have HC231_0:=Aside0.mk hl231_0
           clear hi231_0 hl231_0
           replace p231:=eq_true p231
           replace q231:=eq_true q231
           refine start_ (n:=18) (S:=fun w'=>w'.cell? ⟨gb229,0,none⟩ = some (.bool ((rd_T72 l0 x10_1).f0)) ∧ w'.cell? ⟨gb229,1,none⟩ = some (.slice A228_1 ((rd_T72 l0 x10_1).f1).length c228_1) ∧ w'.cell? ⟨gb229,2,none⟩ = some (.slice A228_2 ((rd_T72 l0 x10_1).f2).length c228_2) ∧ w'.cell? (ad230.add ((ji6)).toNat) = some (.slice A230_0 (rd_L2 l1 (ji6)).length c230_0) ∧ w'.cell? (ad230.add ((ji9)).toNat) = some (.slice A231_0 (rd_L2 l1 (ji9)).length c231_0)) (ds:=[15,16]) #[false,false,false,false,false,false,false,false,false,false,false,false,false,false,false,false,false,false] (by kernel_rfl) rfl rfl ⟨(blk_cell BK229.out 0).trans rfl,(blk_cell BK229.out 1).trans rfl,(blk_cell BK229.out 2).trans rfl,hx230_0,hx231_0⟩ (fun hHeld=>?_);refine with_tabW impl_withTerms.tab5 impl_withTerms.bits5 (fun HT_ HW_=>?_)
           generalize w15.drew = w16 at HO_1 HO_5 BK229 HB HL230_0 HL231_0 HR230_0 HR231_0 hx230_0 hx231_0 hHeld ⊢
           refine pure_ (i:=0) (N:=some 15) (v:=?_) (a':=?_) #[true,false,false,false,false,false,false,false,false,false,false,false,false,false,false,false,false,false] rfl rfl (any_of HT_.out (by kernel_rfl)) (fun _ _ _ h=>h) (Or.inl ⟨by rfl,?_⟩) ?_ ?_
           rotate_left
           ·intro w'
            go_simp
            with_reducible rfl
           rotate_left
           ·simp only [Act.put,List.setIfInBounds_toArray,List.set_cons_zero,List.set_cons_succ,i64_w,i32_w]
            rfl
           refine pure_ (i:=1) (N:=some 16) (v:=?_) (a':=?_) #[true,true,false,false,false,false,false,false,false,false,false,false,false,false,false,false,false,false] rfl rfl (any_of HT_.out (by kernel_rfl)) (fun _ _ _ h=>h) (Or.inl ⟨by rfl,?_⟩) ?_ ?_
           rotate_left
           ·intro w'
            go_simp
            with_reducible rfl
           rotate_left
           ·simp only [Act.put,List.setIfInBounds_toArray,List.set_cons_zero,List.set_cons_succ,i64_w,i32_w]
            rfl
           refine pure_ (i:=3) (N:=some 18) (v:=?_) (a':=?_) #[true,true,false,true,false,false,false,false,false,false,false,false,false,false,false,false,false,false] rfl rfl (any_of HT_.out (by kernel_rfl)) (fun _ _ _ h=>h) (Or.inl ⟨by rfl,?_⟩) ?_ ?_
           rotate_left
           ·intro w'
            go_simp
            with_reducible rfl
           rotate_left
           ·simp only [Act.put,List.setIfInBounds_toArray,List.set_cons_zero,List.set_cons_succ,i64_w,i32_w]
            rfl
           refine pure_ (i:=4) (N:=some 19) (v:=?_) (a':=?_) #[true,true,false,true,true,false,false,false,false,false,false,false,false,false,false,false,false,false] rfl rfl (any_of HT_.out (by kernel_rfl)) (fun _ _ _ h=>h) (Or.inl ⟨by rfl,?_⟩) ?_ ?_
           rotate_left
           ·intro w'
            go_simp
            with_reducible rfl
           rotate_left
           ·simp only [Act.put,List.setIfInBounds_toArray,List.set_cons_zero,List.set_cons_succ,i64_w,i32_w]
            rfl
           refine pure_ (i:=5) (N:=some 20) (v:=?_) (a':=?_) #[true,true,false,true,true,true,false,false,false,false,false,false,false,false,false,false,false,false] rfl rfl (any_of HT_.out (by kernel_rfl)) (fun _ _ _ h=>h) (Or.inl ⟨by rfl,?_⟩) ?_ ?_
           rotate_left
           ·intro w'
            go_simp
            with_reducible rfl
           rotate_left
           ·simp only [Act.put,List.setIfInBounds_toArray,List.set_cons_zero,List.set_cons_succ,i64_w,i32_w]
            rfl
           refine pure_ (i:=6) (N:=some 21) (v:=?_) (a':=?_) #[true,true,false,true,true,true,true,false,false,false,false,false,false,false,false,false,false,false] rfl rfl (any_of HT_.out (by kernel_rfl)) (fun _ _ _ h=>h) (Or.inl ⟨by rfl,?_⟩) ?_ ?_
           rotate_left
           ·intro w'
            go_simp
            with_reducible rfl
           rotate_left
           ·simp only [Act.put,List.setIfInBounds_toArray,List.set_cons_zero,List.set_cons_succ,i64_w,i32_w]
            rfl
           refine pure_ (i:=8) (N:=some 23) (v:=?_) (a':=?_) #[true,true,false,true,true,true,true,false,true,false,false,false,false,false,false,false,false,false] rfl rfl (any_of HT_.out (by kernel_rfl)) (fun _ _ _ h=>h) (Or.inl ⟨by rfl,?_⟩) ?_ ?_
           rotate_left
           ·intro w'
            go_simp
            with_reducible rfl
           rotate_left
           ·simp only [Act.put,List.setIfInBounds_toArray,List.set_cons_zero,List.set_cons_succ,i64_w,i32_w]
            rfl
           refine pure_ (i:=9) (N:=some 24) (v:=?_) (a':=?_) #[true,true,false,true,true,true,true,false,true,true,false,false,false,false,false,false,false,false] rfl rfl (any_of HT_.out (by kernel_rfl)) (fun _ _ _ h=>h) (Or.inl ⟨by rfl,?_⟩) ?_ ?_
           rotate_left
           ·intro w'
            go_simp
            with_reducible rfl
           rotate_left
           ·simp only [Act.put,List.setIfInBounds_toArray,List.set_cons_zero,List.set_cons_succ,i64_w,i32_w]
            rfl
           refine pure_ (i:=10) (N:=some 25) (v:=?_) (a':=?_) #[true,true,false,true,true,true,true,false,true,true,true,false,false,false,false,false,false,false] rfl rfl (any_of HT_.out (by kernel_rfl)) (fun _ _ _ h=>h) (Or.inl ⟨by rfl,?_⟩) ?_ ?_
           rotate_left
           ·intro w'
            go_simp
            with_reducible rfl
           rotate_left
           ·simp only [Act.put,List.setIfInBounds_toArray,List.set_cons_zero,List.set_cons_succ,i64_w,i32_w]
            rfl
           refine pure_ (i:=11) (N:=some 26) (v:=?_) (a':=?_) #[true,true,false,true,true,true,true,false,true,true,true,true,false,false,false,false,false,false] rfl rfl (any_of HT_.out (by kernel_rfl)) (fun _ _ _ h=>h) (Or.inl ⟨by rfl,?_⟩) ?_ ?_
           rotate_left
           ·intro w'
            go_simp
            with_reducible rfl
           rotate_left
           ·simp only [Act.put,List.setIfInBounds_toArray,List.set_cons_zero,List.set_cons_succ,i64_w,i32_w]
            rfl
           refine pure_ (i:=12) (N:=some 27) (v:=?_) (a':=?_) #[true,true,false,true,true,true,true,false,true,true,true,true,true,false,false,false,false,false] rfl rfl (any_of HT_.out (by kernel_rfl)) (fun _ _ _ h=>h) (Or.inl ⟨by rfl,?_⟩) ?_ ?_
           rotate_left
           ·intro w'
            go_simp
            with_reducible rfl
           rotate_left
           ·simp only [Act.put,List.setIfInBounds_toArray,List.set_cons_zero,List.set_cons_succ,i64_w,i32_w]
            rfl
           refine take_ (i:=2) (N:=some 17) (v:=?_) (a':=?_) #[true,true,true,true,true,true,true,false,true,true,true,true,true,false,false,false,false,false] rfl rfl (take_ofW HT_.out HW_.out (by kernel_rfl)) (fun _ _ _ h=>h) (Or.inl ⟨by rfl,?_⟩) hHeld ?_ ?_
           rotate_left
           ·rintro w' ⟨s0,s1,s2,s3,s4⟩
            go_simp
            with_reducible rfl
           rotate_left
           ·simp only [Act.put,List.setIfInBounds_toArray,List.set_cons_zero,List.set_cons_succ,i64_w,i32_w]
            rfl
           refine take_ (i:=7) (N:=some 22) (v:=?_) (a':=?_) #[true,true,true,true,true,true,true,true,true,true,true,true,true,false,false,false,false,false] rfl rfl (take_ofW HT_.out HW_.out (by kernel_rfl)) (fun _ _ _ h=>h) (Or.inl ⟨by rfl,?_⟩) hHeld ?_ ?_
           rotate_left
           ·rintro w' ⟨s0,s1,s2,s3,s4⟩
            go_simp
            with_reducible rfl
           rotate_left
           ·simp only [Act.put,List.setIfInBounds_toArray,List.set_cons_zero,List.set_cons_succ,i64_w,i32_w]
            rfl
           refine take_ (i:=13) (N:=some 28) (v:=?_) (a':=?_) #[true,true,true,true,true,true,true,true,true,true,true,true,true,true,false,false,false,false] rfl rfl (take_ofW HT_.out HW_.out (by kernel_rfl)) (fun _ _ _ h=>h) (Or.inl ⟨by rfl,?_⟩) hHeld ?_ ?_
           rotate_left
           ·rintro w' ⟨s0,s1,s2,s3,s4⟩
            go_simp
            with_reducible rfl
           rotate_left
           ·simp only [Act.put,List.setIfInBounds_toArray,List.set_cons_zero,List.set_cons_succ,i64_w,i32_w]
            rfl
           refine pure_ (i:=14) (N:=some 29) (v:=?_) (a':=?_) #[true,true,true,true,true,true,true,true,true,true,true,true,true,true,true,false,false,false] rfl rfl (any_of HT_.out (by kernel_rfl)) (fun _ _ _ h=>h) (Or.inl ⟨by rfl,?_⟩) ?_ ?_
           rotate_left
           ·intro w'
            go_simp
            with_reducible rfl
           rotate_left
           ·simp only [Act.put,List.setIfInBounds_toArray,List.set_cons_zero,List.set_cons_succ,i64_w,i32_w]
            rfl
           refine last_ (i:=15) (N:=some 30) #[true,true,true,true,true,true,true,true,true,true,true,true,true,true,true,true,false,false] rfl rfl (one_of HT_.out (by kernel_rfl)) (by decide) (fun K hK=>?_)
           refine value_ (w1:=?_) (v:=?_) (by rfl) rfl ?_ ?_
           rotate_left 2
           ·go_simp
            constructor
            ·rfl
            ·rfl
           refine hK.out _ _ ?_
           clear hK K
           refine norm_ (a':=?_) ?_ ?_
           rotate_left
           ·show Act.put _ (some 30) _ = _
            simp only [Act.put,List.setIfInBounds_toArray,List.set_cons_zero,List.set_cons_succ,i64_w,i32_w]
            rfl
           refine last_ (i:=16) (N:=some 31) #[true,true,true,true,true,true,true,true,true,true,true,true,true,true,true,true,true,false] rfl rfl (one_of HT_.out (by kernel_rfl)) (by decide) (fun K hK=>?_)
           refine Kd.N_append_step k72 (w0:=w) w.heap.size (by rfl) (.tmp 15) (.tmp 30) 32 72 (.agg #[(.bool false),(.slice none 0 0),(.slice none 0 0)]) 56 rfl Try.underlying32 info72 rfl (by decide) (by first|decide|omega) u5 x5_1 (⟨(rd_T72 l0 x10_1).f0,rd_L2 l1 (ji6),rd_L2 l1 (ji9)⟩:S72) [.bool ((rd_T72 l0 x10_1).f0),.slice A230_0 (rd_L2 l1 (ji6)).length c230_0,.slice A231_0 (rd_L2 l1 (ji9)).length c231_0] (fun k_=>(P1_ k_ ∨ w.heap.size ≤ k_) ∧ k_ ≠ gb229) (fun k_=>((fun k_=>(P1_ k_ ∨ w.heap.size ≤ k_) ∧ k_ ≠ gb229)) k_ ∧ some k_ ≠ (u5:Value).ownBlock) rfl rfl ?aP (fun _ hk=>hk) ?aF ?aO ?aB ?aS ?aL ?_
           (case aP=>exact (k72_mkF _ _ (⟨(rd_T72 l0 x10_1).f0,rd_L2 l1 (ji6),rd_L2 l1 (ji9)⟩:S72) (Kd.V_reads' (Kd.V_mono (ok':=(fun k_=>((fun k_=>(P1_ k_ ∨ w.heap.size ≤ k_) ∧ k_ ≠ gb229)) k_ ∧ some k_ ≠ (u5:Value).ownBlock)) (HL230_0.out) (fun k_ hk=>⟨⟨hk.1,hk.2.2⟩,hk.2.1⟩))).2.1 (Kd.V_F (Kd.V_mono (ok':=(fun k_=>((fun k_=>(P1_ k_ ∨ w.heap.size ≤ k_) ∧ k_ ≠ gb229)) k_ ∧ some k_ ≠ (u5:Value).ownBlock)) (HL230_0.out) (fun k_ hk=>⟨⟨hk.1,hk.2.2⟩,hk.2.1⟩))) (Kd.V_reads' (Kd.V_mono (ok':=(fun k_=>((fun k_=>(P1_ k_ ∨ w.heap.size ≤ k_) ∧ k_ ≠ gb229)) k_ ∧ some k_ ≠ (u5:Value).ownBlock)) (HL231_0.out) (fun k_ hk=>⟨⟨hk.1,hk.2.2⟩,hk.2.1⟩))).2.1 (Kd.V_F (Kd.V_mono (ok':=(fun k_=>((fun k_=>(P1_ k_ ∨ w.heap.size ≤ k_) ∧ k_ ≠ gb229)) k_ ∧ some k_ ≠ (u5:Value).ownBlock)) (HL231_0.out) (fun k_ hk=>⟨⟨hk.1,hk.2.2⟩,hk.2.1⟩)))))
           (case aB=>exact (by repeat (first|(with_reducible first|exact HB.out|apply below_alloc|apply pw_below_drewN|apply below_drew1|refine below_set ?_ GE229.out)|exact HB.out)))
           (case aF=>exact (fun k_ hk=>⟨(.inr (Nat.le_trans (below_size (by repeat (first|(with_reducible first|exact HB.out|apply below_alloc|apply pw_below_drewN|apply below_drew1|refine below_set ?_ GE229.out)|exact HB.out))) hk)),Kd.freshB (g:=gb229) (o:=.cells #[.bool ((rd_T72 l0 x10_1).f0),.slice A228_1 ((rd_T72 l0 x10_1).f1).length c228_1,.slice A228_2 ((rd_T72 l0 x10_1).f2).length c228_2] 72 (0,0)) (by (with_reducible repeat (first|refine blk_drewN ?_ _|refine blk_drew ?_|refine blk_alloc ?_ _));exact BK229.out) k_ hk⟩))
           (case aO=>exact (by (with_reducible repeat (first|apply Kd.N_alloc|apply Kd.N_drewN|apply Kd.N_drew));exact HO_5.out))
           (case aS=>exact (below_size (by repeat (first|(with_reducible first|exact HB.out|apply below_alloc|apply pw_below_drewN|apply below_drew1|refine below_set ?_ GE229.out)|exact HB.out))))
           (case aL=>have:=LMc12.out;omega)
           intro v233 w17 ho hb hg hat
           rw [← Ny232.out] at ho
           have n0_:=Aside0.mk (Kd.V_afterv (ok:=(fun k_=>(P1_ k_ ∨ w.heap.size ≤ k_) ∧ k_ ≠ gb229)) (by (with_reducible repeat (first|apply Kd.V_alloc|apply Kd.V_drewN|apply Kd.V_drew));exact Kd.V_mono HO_1.out (fun _ hk=>⟨⟨hk.1,hk.2.2⟩,hk.2.1⟩)) hg hat)
           have n1_:=Aside0.mk (blk_grown (g:=gb229) (o:=.cells #[.bool ((rd_T72 l0 x10_1).f0),.slice A228_1 ((rd_T72 l0 x10_1).f1).length c228_1,.slice A228_2 ((rd_T72 l0 x10_1).f2).length c228_2] 72 (0,0)) (by (with_reducible repeat (first|refine blk_drewN ?_ _|refine blk_drew ?_|refine blk_alloc ?_ _));exact BK229.out) hg (Kd.N_away HO_5.out (fun _ hk=>hk.2)))
           have n2_:=Aside0.mk (Kd.V_afterv (ok:=(fun k_=>(P1_ k_ ∨ w.heap.size ≤ k_) ∧ k_ ≠ gb229)) (by (with_reducible repeat (first|apply Kd.V_alloc|apply Kd.V_drewN|apply Kd.V_drew));exact Kd.V_mono HL230_0.out (fun _ hk=>⟨⟨hk.1,hk.2.2⟩,hk.2.1⟩)) hg hat)
           have n3_:=Aside0.mk (Kd.V_afterv (ok:=(fun k_=>(P1_ k_ ∨ w.heap.size ≤ k_) ∧ k_ ≠ gb229)) (by (with_reducible repeat (first|apply Kd.V_alloc|apply Kd.V_drewN|apply Kd.V_drew));exact Kd.V_mono HL231_0.out (fun _ hk=>⟨⟨hk.1,hk.2.2⟩,hk.2.1⟩)) hg hat)
           have n4_:=Aside0.mk (hb)
           have n5_:=Aside0.mk (ho)
           clear HO_1
           clear BK229
           clear HL230_0
           clear HL231_0
           clear HB
           clear HO_5
           have HO_1:=n0_
           have BK229:=n1_
           have HL230_0:=n2_
           have HL231_0:=n3_
           have HB:=n4_
           have HO234:=n5_
           clear n0_ n1_ n2_ n3_ n4_ n5_
           clear ho hb hg hat
           refine hK.out _ _ ?_
           clear hK K
           refine norm_ (a':=?_) ?_ ?_
           rotate_left
           ·show Act.put _ (some 31) _ = _
            simp only [Act.put,List.setIfInBounds_toArray,List.set_cons_zero,List.set_cons_succ,i64_w,i32_w]
            rfl
           refine pure_ (i:=17) (N:=some 5) (v:=?_) (a':=?_) #[true,true,true,true,true,true,true,true,true,true,true,true,true,true,true,true,true,true] rfl rfl (any_of HT_.out (by kernel_rfl)) (fun _ _ _ h=>h) (Or.inl ⟨by rfl,?_⟩) ?_ ?_
           rotate_left
           ·intro w'
            go_simp
            with_reducible rfl
           rotate_left
           ·simp only [Act.put,List.setIfInBounds_toArray,List.set_cons_zero,List.set_cons_succ,i64_w,i32_w]
            rfl
           refine done_ (done_of HT_.out (by kernel_rfl)) ?_
           try go_wp2
           go_roundg k1
           case measure=>have:=HK1.out;omega
           case rel=>exact ⟨(y232),(wrap64 (x10_1 + 1)),(by first|rfl|(simp;done)|(simp [*];done)),H',⟨by have:=HK1.out;omega⟩,⟨by (with_reducible repeat (first|apply Kd.V_alloc|apply Kd.V_drewN|apply Kd.V_drew));exact Kd.V_mono HO_1.out (fun _ hk=>⟨hk.1.1,hk.2⟩)⟩,⟨by (with_reducible repeat (first|apply Kd.N_alloc|apply Kd.N_drewN|apply Kd.N_drew));exact Kd.N_mono HO234.out (fun _ hk=>hk.1)⟩,⟨by repeat (first|(with_reducible first|exact HB.out|apply below_alloc|apply pw_below_drewN|apply below_drew1|refine below_set ?_ GE229.out)|exact HB.out)⟩⟩
          ·rw [if_neg c12] at H
           exact absurd H (by simp)
         ·rw [if_neg c11] at H
          exact absurd H (by simp)
        ·rw [if_neg c10] at H
         exact absurd H (by simp)
       ·rw [if_neg c8] at H
        exact absurd H (by simp)
      ·rw [if_neg c7] at H
       exact absurd H (by simp)
     ·rw [if_neg c5] at H
      exact absurd H (by simp)
    ·rw [if_neg c4] at H
     exact absurd H (by simp)
   ·rw [if_neg c3] at H
    have c3b0:decide (x10_1 < (l0.length:Int)) = false:=decide_eq_false c3
    clear c3
    obtain rfl:=Option.some.inj H
    go_wp2
    go_ret
    exact ⟨_,by first|rfl|(simp [errW_none,errW_some] <;> rfl)|(simp [*,errW_none,errW_some] <;> rfl),by (with_reducible repeat (first|apply Kd.N_alloc|apply Kd.N_drewN|apply Kd.N_drew));exact HO_5.out,by repeat (first|(with_reducible first|exact HB.out|apply below_alloc|apply pw_below_drewN|apply below_drew1)|exact HB.out)⟩

/-! ### slices_Clone_int_int: function 78, by the kit's own contract -/
open Go.Shelf in
shelf_lay Lays2.n15 Nm2 15 at Try as Try.laysCloneLays2n15
theorem Try.flaysCloneLays2n15:Try.laysCloneLays2n15_ren.f 15 = 78:=by kernel_rfl
theorem Try.tlaysCloneLays2n15:Try.laysCloneLays2n15_ren.t 3 = 3:=by kernel_rfl
def slices_Clone_int_int.f (l0:List Int):Option (List Int):=if l0.length ≤ 17592186044416 then some l0 else none
theorem slices_Clone_int_int.calls (A0:Option Addr) (c0:Nat) (l0:List Int) (r:List Int) (w:World) (hr0:Kd.C (Kd.int .i64) w A0 l0.length l0) (hc0:l0.length ≤ c0) (h:slices_Clone_int_int.f l0 = some r) :
    Calls Try.prog 78 #[.slice A0 l0.length c0] w fun e w'=>∃ v0_:Value,e = .returned (v0_) ∧ Kd.R (Kd.int .i64) 3 w' w.heap.size (fun _=>True) v0_ r ∧ Below w.heap.size w w':=by
  unfold slices_Clone_int_int.f at h
  split at h
  · rename_i hn
    obtain rfl:=Option.some.inj h
    have hR:ReadsOf (Value.int .i64) 0 w A0 l0.length l0:=Kd.reads_of_C hr0
    rcases A0 with _|⟨b,off,sp⟩
    · have h0:l0 = []:=by
        rcases Nat.eq_zero_or_pos l0.length with h|h
        · exact List.eq_nil_of_length_eq_zero h
        · obtain ⟨ad,e,_⟩:=hR.2.2 h
          cases e
      subst h0
      have h':=Any.slices_Clone_int_nil Try.laysCloneLays2n15 0 c0 w
      rw [Try.flaysCloneLays2n15] at h'
      exact h'.mono fun e w' ⟨he,hw⟩=>⟨_,he,Kd.R_nil _ _ _ _ _,hw ▸ Below.refl _ _⟩
    · rcases Nat.eq_zero_or_pos l0.length with h0|h0
      · obtain rfl:l0 = []:=List.eq_nil_of_length_eq_zero h0
        have h':=Any.slices_Clone_int_zero Try.laysCloneLays2n15 ⟨b,off,sp⟩ c0 w
        rw [Try.flaysCloneLays2n15,Try.tlaysCloneLays2n15] at h'
        exact h'.mono fun e w' ⟨v,he,ho,_,hb⟩=>⟨v,he,Kd.R_of_own (enc:=(Value.int .i64)) (h1:=fun _=>rfl) ho (fun _ _=>trivial),hb⟩
      · obtain ⟨ad,e,hc⟩:=hR.2.2 h0
        injection e with e
        subst e
        have hsp:sp = none:=by
          have h1:=hc 0 h0
          cases sp with
          | none=>rfl
          | some x=>simp [Addr.add,World.cell?] at h1;split at h1 <;> simp at h1
        subst hsp
        have h':=Any.slices_Clone_int Try.laysCloneLays2n15 b off l0.length c0 l0 w (Nat.le_refl _) (by omega) (fun j hj=>(Addr.add_lit b off j) ▸ hc j hj)
        rw [Try.flaysCloneLays2n15,Try.tlaysCloneLays2n15,List.take_length] at h'
        exact h'.mono fun e w' ⟨v,he,ho,_,hb⟩=>⟨v,he,Kd.R_of_own (enc:=(Value.int .i64)) (h1:=fun _=>rfl) ho (fun _ _=>trivial),hb⟩
  · simp at h

end Go.Proofs.Ytlgnanbnicmdaaa.QFnExactSameClause
