-- Written by this session's own program (wip/x/xprint.py, over the kit's printer); Lean checks it.
import Derived.Test.YtlgnanbnicmdaaaQFnExactTrimStepsx0
import Derived.Test.YtlgnanbnicmdaaaQFnExactTrimStepsx6
import Derived.Test.YtlgnanbnicmdaaaQFnExactTrimStepsx7
import Derived.Test.YtlgnanbnicmdaaaQFnExactTrimStepsx8
namespace Go.Proofs.Ytlgnanbnicmdaaa.QFnExactTrimSteps
open Go.RowKit Go.Proofs.YtlgnanbnicmdaaaW.PrintWords Go.Proofs.YtlgnanbnicmdaaaW.PrintLast Go.Proofs.YtlgnanbnicmdaaaW.PrintMore
attribute [local go_sem] max2_int min2_int max_two min_two max_three min_three max_four min_four   -- for this text's walks alone
set_option linter.unusedVariables false
set_option linter.unusedSimpArgs false

/-! ### spec_l9Trim: function 76 -/
mutual
def spec_l9Trim.l0:Nat → List (S83) → List Int → List (S83) → List Int → Int → Int → Option ((List (S83)))
 | 0,_,_,_,_,_,_=>none
 | k + 1,x0,x4,x5,x18,x19,x20=>if x20 < x19 then (if 0 ≤ x20 then (if x20 < (x18.length:Int) then (if 0 ≤ (rd x18 x20) then (if (rd x18 x20) < (x4.length:Int) then (if (rd x18 x20) < (x0.length:Int) then (spec_l9Trim.l1 k x0 (x4.set ((rd x18 x20):Int).toNat x20) x5 (rd x18 x20) ([]:List Int) x18 x19 x20 ((rd_T83 x0 (rd x18 x20)).f1) (((rd_T83 x0 (rd x18 x20)).f1).length:Int) 0) else (none)) else (none)) else (none)) else (none)) else (none)) else (some x5)
def spec_l9Trim.l1:Nat → List (S83) → List Int → List (S83) → Int → List Int → List Int → Int → Int → List Int → Int → Int → Option ((List (S83)))
 | 0,_,_,_,_,_,_,_,_,_,_,_=>none
 | k + 1,x0,x4,x5,x7,x8,x18,x19,x20,x33,x34,x35=>if x35 < x34 then (if 0 ≤ x35 then (if x35 < (x33.length:Int) then (if 0 ≤ (rd x33 x35) then (if (rd x33 x35) < (x4.length:Int) then (if x8.length < 17592186044416 then (spec_l9Trim.l1 k x0 x4 x5 x7 (x8 ++ [rd x4 (rd x33 x35)]) x18 x19 x20 x33 x34 (wrap64 (x35 + 1))) else (none)) else (none)) else (none)) else (none)) else (none)) else (if 0 ≤ x7 then (if x7 < (x0.length:Int) then ((spec_l1Own.f ((rd_T83 x0 x7).f2)).bind fun t280=>((spec_l4Own.f k ((rd_T83 x0 x7).f3)).bind fun t284=>(if x5.length < 1759218604441 then (spec_l9Trim.l0 k x0 x4 (x5 ++ [(⟨(rd_T83 x0 x7).f0,x8,t280,t284⟩:S83)]) x18 x19 (wrap64 (x20 + 1))) else (none)))) else (none)) else (none))
end
def spec_l9Trim.f (k:Nat) (l0:List (S83)):Option ((List (S83))):=(spec_l9Empty.f k l0).bind fun t263=>((spec_l9Needed.f k l0 t263).bind fun t264=>(if 0 ≤ (l0.length:Int) then (if ((l0.length:Int):Int).toNat ≤ 35184372088832 then (spec_l9Trim.l0 k l0 (List.replicate ((l0.length:Int):Int).toNat 0) ([]:List (S83)) t264 (t264.length:Int) 0) else (none)) else (none)))
theorem spec_l9Trim.mono_l:∀ k,(∀ y0 y1 y2 y3 y4 y5,LeO (spec_l9Trim.l0 k y0 y1 y2 y3 y4 y5) (spec_l9Trim.l0 (k + 1) y0 y1 y2 y3 y4 y5)) ∧ (∀ y0 y1 y2 y3 y4 y5 y6 y7 y8 y9 y10,LeO (spec_l9Trim.l1 k y0 y1 y2 y3 y4 y5 y6 y7 y8 y9 y10) (spec_l9Trim.l1 (k + 1) y0 y1 y2 y3 y4 y5 y6 y7 y8 y9 y10))
 | 0=>⟨fun _ _ _ _ _ _ r h=>by simp [spec_l9Trim.l0] at h,fun _ _ _ _ _ _ _ _ _ _ _ r h=>by simp [spec_l9Trim.l1] at h⟩
 | k + 1=>by
  obtain ⟨ih0,ih1⟩:=spec_l9Trim.mono_l k
  refine ⟨?_,?_⟩
  ·intro y0 y1 y2 y3 y4 y5
   unfold spec_l9Trim.l0
   repeat' first
   | (with_reducible exact ih0 _ _ _ _ _ _)
   | (with_reducible exact ih1 _ _ _ _ _ _ _ _ _ _ _)
   | (with_reducible exact spec_l4Own.mono _ _)
   | (with_reducible exact spec_l9Empty.mono _ _)
   | (with_reducible exact spec_l9Needed.mono _ _ _)
   | (with_reducible exact LeO.refl _)
   | (with_reducible exact LeO.none _)
   | (with_reducible refine LeO.ite ?_ ?_)
   | (with_reducible refine LeO.bind ?_ (fun _=>?_))
   | exact ih0 _ _ _ _ _ _
   | exact ih1 _ _ _ _ _ _ _ _ _ _ _
   | exact spec_l4Own.mono _ _
   | exact spec_l9Empty.mono _ _
   | exact spec_l9Needed.mono _ _ _
   | exact LeO.none _
   | refine LeO.ite ?_ ?_
   | refine LeO.bind ?_ (fun _=>?_)
  ·intro y0 y1 y2 y3 y4 y5 y6 y7 y8 y9 y10
   unfold spec_l9Trim.l1
   repeat' first
   | (with_reducible exact ih0 _ _ _ _ _ _)
   | (with_reducible exact ih1 _ _ _ _ _ _ _ _ _ _ _)
   | (with_reducible exact spec_l4Own.mono _ _)
   | (with_reducible exact spec_l9Empty.mono _ _)
   | (with_reducible exact spec_l9Needed.mono _ _ _)
   | (with_reducible exact LeO.refl _)
   | (with_reducible exact LeO.none _)
   | (with_reducible refine LeO.ite ?_ ?_)
   | (with_reducible refine LeO.bind ?_ (fun _=>?_))
   | exact ih0 _ _ _ _ _ _
   | exact ih1 _ _ _ _ _ _ _ _ _ _ _
   | exact spec_l4Own.mono _ _
   | exact spec_l9Empty.mono _ _
   | exact spec_l9Needed.mono _ _ _
   | exact LeO.none _
   | refine LeO.ite ?_ ?_
   | refine LeO.bind ?_ (fun _=>?_)
theorem spec_l9Trim.mono:∀ a0 k,LeO (spec_l9Trim.f k a0) (spec_l9Trim.f (k + 1) a0):=by
 intro a0 k
 obtain ⟨ih0,ih1⟩:=spec_l9Trim.mono_l k
 unfold spec_l9Trim.f
 repeat' first
   | (with_reducible exact ih0 _ _ _ _ _ _)
   | (with_reducible exact ih1 _ _ _ _ _ _ _ _ _ _ _)
   | (with_reducible exact spec_l4Own.mono _ _)
   | (with_reducible exact spec_l9Empty.mono _ _)
   | (with_reducible exact spec_l9Needed.mono _ _ _)
   | (with_reducible exact LeO.refl _)
   | (with_reducible exact LeO.none _)
   | (with_reducible refine LeO.ite ?_ ?_)
   | (with_reducible refine LeO.bind ?_ (fun _=>?_))
   | exact ih0 _ _ _ _ _ _
   | exact ih1 _ _ _ _ _ _ _ _ _ _ _
   | exact spec_l4Own.mono _ _
   | exact spec_l9Empty.mono _ _
   | exact spec_l9Needed.mono _ _ _
   | exact LeO.none _
   | refine LeO.ite ?_ ?_
   | refine LeO.bind ?_ (fun _=>?_)
def spec_l9Trim.T14:Bool × List (List Nat × List Nat):=(true,[([],[]),([],[]),([],[]),([1,2],[1,2]),([3],[3]),([4],[4]),([],[]),([],[]),([],[]),([7,8],[7,8]),([9],[9]),([10],[10]),([11],[11]),([],[]),([],[]),([13,14],[13,14]),([15],[15]),([16],[16]),([17,12],[17]),([5,6,12,18],[5,6,12,18]),([19],[19]),([0,20,18],[0,20]),([21,21,0,1,2,3,4,5,6,7,8,9,10,11,12,13,14,15,16,17,18,19,20,21],[0,21])])
def spec_l9Trim.B14:List Nat:=[0,0,0,6,14,30,0,0,0,384,896,1920,3968,0,0,24576,57344,122880,262016,524286,1048574,2097151,4194303]
theorem spec_l9Trim.tab14:rtab .any (opsOf Try.f76 14) = spec_l9Trim.T14:=by kernel_rfl
theorem spec_l9Trim.bits14:waitsOk spec_l9Trim.T14.2 spec_l9Trim.B14 = true:=by kernel_rfl
set_option maxHeartbeats 8000000 in
set_option maxRecDepth 100000 in
theorem spec_l9Trim.calls (k:Nat) (A0:Option Addr) (c0:Nat) (l0:List (S83)) (r:List (S83)) (w:World) (hr0:Kd.C k83 w A0 l0.length l0) (hc0:l0.length ≤ c0) (h:spec_l9Trim.f k l0 = some r) :
  Calls Try.prog 76 #[.slice A0 l0.length c0] w fun e w'=>∃ v0_:Value,e = .returned (v0_) ∧ Kd.R k83 83 w' w.heap.size (fun _=>True) v0_ r ∧ Below w.heap.size w w':=by
 have hu83:=Try.underlying83
 have HR0:=Aside0.mk hr0
 have HC0:=Aside0.mk hc0
 clear hr0 hc0
 have HB:=Aside0.mk (Below.refl w.heap.size w)
 have H:((spec_l9Empty.f k l0).bind fun t263=>((spec_l9Needed.f k l0 t263).bind fun t264=>(if 0 ≤ (l0.length:Int) then (if ((l0.length:Int):Int).toNat ≤ 35184372088832 then (spec_l9Trim.l0 k l0 (List.replicate ((l0.length:Int):Int).toNat 0) ([]:List (S83)) t264 (t264.length:Int) 0) else (none)) else (none)))) = some r:=h
 clear h
 replace H:=Option.bind_eq_some_iff.mp H
 obtain ⟨t263,A20,H⟩:=H
 replace H:((spec_l9Needed.f k l0 t263).bind fun t264=>(if 0 ≤ (l0.length:Int) then (if ((l0.length:Int):Int).toNat ≤ 35184372088832 then (spec_l9Trim.l0 k l0 (List.replicate ((l0.length:Int):Int).toNat 0) ([]:List (S83)) t264 (t264.length:Int) 0) else (none)) else (none))) = some r:=H
 have A2:=Aside0.mk A20
 clear A20
 replace H:=Option.bind_eq_some_iff.mp H
 obtain ⟨t264,A30,H⟩:=H
 replace H:(if 0 ≤ (l0.length:Int) then (if ((l0.length:Int):Int).toNat ≤ 35184372088832 then (spec_l9Trim.l0 k l0 (List.replicate ((l0.length:Int):Int).toNat 0) ([]:List (S83)) t264 (t264.length:Int) 0) else (none)) else (none)) = some r:=H
 have A3:=Aside0.mk A30
 clear A30
 by_cases c4:0 ≤ (l0.length:Int)
 ·rw [if_pos c4] at H
  have c4b0:=eq_true c4
  have c4b1:decide (0 ≤ (l0.length:Int)) = true:=decide_eq_true c4
  clear c4
  by_cases c5:((l0.length:Int):Int).toNat ≤ 35184372088832
  ·rw [if_pos c5] at H
   have c5b0:=eq_true c5
   have c5b1:decide (((l0.length:Int):Int).toNat ≤ 35184372088832) = true:=decide_eq_true c5
   clear c5
   obtain ⟨y267,hy267⟩:∃ y_:List Int,y_ = (List.replicate ((l0.length:Int):Int).toNat 0):=⟨_,rfl⟩
   replace H:(spec_l9Trim.l0 k l0 y267 ([]:List (S83)) t264 (t264.length:Int) 0) = some r:=by first|(rw [hy267];with_reducible exact H)|(have H2_:=(Option.bind_some _ _).symm.trans H;rw [hy267];with_reducible exact H2_)|(have H2_:=(Option.bind_some _ _).symm.trans H;with_reducible exact H2_)|with_reducible exact H|(rw [hy267];exact H)|exact H
   have Ny267:=Aside0.mk hy267
   clear hy267
   have H':=Aside0.mk H
   clear H
   go_enter Try.func76,Try.ntmps76
   go_wp2_with (first|((with_reducible refine gate_callee (f:=75) rfl ?_);refine goesL_ (some 13) rfl rfl Try.func75 (by kernel_rfl) rfl #[.slice A0 l0.length c0] rfl (by (try simp only [List.map_toArray,List.map_cons,List.map_nil]);first|done|rfl|(simp only [List.length_drop,List.length_take];rfl)) ?_;(with_reducible refine (spec_l9Empty.calls k _ _ l0 t263 _ ?side1 ?side2 A2.out).mono ?_);(case side1=>repeat (first|exact HR0.out|(with_reducible refine Kd.C_alloc ?_ _)|(with_reducible refine Kd.C_drewN ?_ _)|(with_reducible refine Kd.C_drew ?_)));(case side2=>exact HC0.out);rintro e w6 ⟨rfl,hb⟩;refine ⟨_,rfl,?_⟩;have n0_:=Aside0.mk (below_step (by repeat (first|(with_reducible first|exact HB.out|apply below_alloc|apply pw_below_drewN|apply below_drew1)|exact HB.out)) hb);clear HB;have HB:=n0_;clear n0_;(try clear hb);(try clear hb2);(try clear hk);(try clear hi))|((with_reducible refine gate_callee (f:=66) rfl ?_);refine goesL_ (some 14) rfl rfl Try.func66 (by kernel_rfl) rfl #[.slice A0 l0.length c0,.int .i64 t263] rfl (by (try simp only [List.map_toArray,List.map_cons,List.map_nil]);first|done|rfl|(simp only [List.length_drop,List.length_take];rfl)) ?_;(with_reducible refine (spec_l9Needed.calls k _ _ l0 t263 t264 _ ?side1 ?side2 A3.out).mono ?_);(case side1=>repeat (first|exact (Kd.C_below HR0.out HB.out)|(with_reducible refine Kd.C_alloc ?_ _)|(with_reducible refine Kd.C_drewN ?_ _)|(with_reducible refine Kd.C_drew ?_)));(case side2=>exact HC0.out);rintro e w7 ⟨v265,rfl,ho0,hb⟩;refine ⟨_,rfl,?_⟩;have n0_:=Aside0.mk (Kd.R_lower ho0 (below_size (by repeat (first|(with_reducible first|exact HB.out|apply below_alloc|apply pw_below_drewN|apply below_drew1)|exact HB.out))));have n1_:=Aside0.mk (below_step (by repeat (first|(with_reducible first|exact HB.out|apply below_alloc|apply pw_below_drewN|apply below_drew1)|exact HB.out)) hb);clear HB;have HO266:=n0_;have HB:=n1_;clear n0_ n1_;(try clear hb);(try clear hb2);(try clear hk);(try clear hi);(try clear ho0))|((with_reducible refine gate_dst (N:=17) rfl ?_);refine Kd.R_make (Kd.int .i64) _ 3 rfl (N:=17) rfl 22 _ _ rfl (l0.length:Int) rfl rfl Try.underlying22 (.int .i64 0) 8 info3 rfl (by decide) (by first|decide|omega) 0 (ok:=fun _=>True) (okp:=fun _=>True) rfl (fun _ hk=>hk) trivial (of_decide_eq_true (by first|(with_reducible assumption)|assumption)) (Nat.le_trans (Nat.mul_le_mul_right _ (of_decide_eq_true (by first|(with_reducible assumption)|assumption):(l0.length:Int).toNat ≤ 35184372088832)) (by first|decide|omega)) (Below.refl _ _) (Nat.le_refl _) ?_;intro v268 w8 ho9 hb hg_ hnew_;clear hg_ hnew_;(first|rw [← Ny267.out] at ho9|(simp only [Int.reduceToNat] at ho9;rw [← Ny267.out] at ho9));have n0_:=Aside0.mk (Kd.R_elder' (by (with_reducible repeat (first|apply Kd.R_alloc|apply Kd.R_drewN|apply Kd.R_drew));exact HO266.out) (Kd.R_base ho9) hb);have n1_:=Aside0.mk (Kd.R_lower (Kd.R_new' ho9 (Kd.R_lt (by (with_reducible repeat (first|apply Kd.R_alloc|apply Kd.R_drewN|apply Kd.R_drew));exact HO266.out))) (below_size (by repeat (first|(with_reducible first|exact HB.out|apply below_alloc|apply pw_below_drewN|apply below_drew1)|exact HB.out))));have n2_:=Aside0.mk (below_step (by repeat (first|(with_reducible first|exact HB.out|apply below_alloc|apply pw_below_drewN|apply below_drew1)|exact HB.out)) hb);clear HO266;clear HB;have HO266:=n0_;have HO269:=n1_;have HB:=n2_;clear n0_ n1_ n2_;clear hb ho9;obtain ⟨Ao10,co10,eo10⟩:=Kd.R_slice HO266.out;subst eo10))
   go_loopg [5,20] k (fun kq v5 v20 w'=>∃ (x4_1:List Int) (x5_1:List (S83)) (x20_1:Int),v20 = .int .i64 x20_1 ∧ Aside0 (spec_l9Trim.l0 kq l0 x4_1 x5_1 t264 (t264.length:Int) x20_1 = some r) ∧ Aside0 (kq ≤ k) ∧ Aside0 (Kd.R (Kd.int .i64) 3 w' w.heap.size (fun k_=>some k_ ≠ ((.slice Ao10 t264.length co10):Value).ownBlock) v268 x4_1) ∧ Aside0 (Kd.R k83 83 w' w.heap.size (fun k_=>some k_ ≠ (v268:Value).ownBlock ∧ some k_ ≠ ((.slice Ao10 t264.length co10):Value).ownBlock) v5 x5_1) ∧ Aside0 (Kd.R (Kd.int .i64) 3 w' w.heap.size (fun k_=>some k_ ≠ (v268:Value).ownBlock) (.slice Ao10 t264.length co10) t264) ∧ Aside0 (Below w.heap.size w w'))
   case atStart=>exact ⟨(y267),(([]:List (S83))),(0),(by first|rfl|(simp;done)|(simp [*];done)),H',⟨Nat.le_refl _⟩,⟨by (with_reducible repeat (first|apply Kd.R_alloc|apply Kd.R_drewN|apply Kd.R_drew));exact Kd.R_mono HO269.out (fun _ hk=>hk.2)⟩,⟨by first|exact Kd.R_nil _ _ _ _ _|exact Kd.N_nil _ _ _ _ _|exact Kd.V_nil _ _ _ _ _|exact Kd.Q_nil _ _ _ _ _|exact Kd.S_nil _ _ _ _ _⟩,⟨by (with_reducible repeat (first|apply Kd.R_alloc|apply Kd.R_drewN|apply Kd.R_drew));exact Kd.R_mono HO266.out (fun _ hk=>hk.2)⟩,⟨by repeat (first|(with_reducible first|exact HB.out|apply below_alloc|apply pw_below_drewN|apply below_drew1)|exact HB.out)⟩⟩
   case round =>
    clear H'
    try clear p2
    try clear c4
    try clear c4b0
    try clear c4b1
    try clear c5
    try clear c5b0
    try clear c5b1
    try clear c6
    try clear c7
    obtain ⟨x4_1,x5_1,x20_1,rfl,HA,HK1,HO_4,HO_5,HO_18,HB⟩:=hrel
    cases gk with
    | zero=>exact absurd HA.out (by simp [spec_l9Trim.l0])
    | succ k1 =>
     have H:=HA.out
     clear HA
     simp only [spec_l9Trim.l0] at H
     by_cases c11:x20_1 < (t264.length:Int)
     ·rw [if_pos c11] at H
      have c11b0:decide (x20_1 < (t264.length:Int)) = true:=decide_eq_true c11
      clear c11
      by_cases c12:0 ≤ x20_1
      ·rw [if_pos c12] at H
       have c12b0:decide (0 ≤ x20_1) = true:=decide_eq_true c12
       clear c12
       by_cases c13:x20_1 < (t264.length:Int)
       ·rw [if_pos c13] at H
        have c13b0:decide (x20_1 < (t264.length:Int)) = true:=decide_eq_true c13
        clear c13
        by_cases c14:0 ≤ (rd t264 x20_1)
        ·rw [if_pos c14] at H
         have c14b0:decide (0 ≤ (rd t264 x20_1)) = true:=decide_eq_true c14
         clear c14
         by_cases c15:(rd t264 x20_1) < (x4_1.length:Int)
         ·rw [if_pos c15] at H
          have c15b0:decide ((rd t264 x20_1) < (x4_1.length:Int)) = true:=decide_eq_true c15
          clear c15
          obtain ⟨y271,hy271⟩:∃ y_:List Int,y_ = (x4_1.set ((rd t264 x20_1):Int).toNat x20_1):=⟨_,rfl⟩
          replace H:(if (rd t264 x20_1) < (l0.length:Int) then (spec_l9Trim.l1 k1 l0 y271 x5_1 (rd t264 x20_1) ([]:List Int) t264 (t264.length:Int) x20_1 ((rd_T83 l0 (rd t264 x20_1)).f1) (((rd_T83 l0 (rd t264 x20_1)).f1).length:Int) 0) else (none)) = some r:=by first|(rw [hy271];with_reducible exact H)|(have H2_:=(Option.bind_some _ _).symm.trans H;rw [hy271];with_reducible exact H2_)|(have H2_:=(Option.bind_some _ _).symm.trans H;with_reducible exact H2_)|with_reducible exact H|(rw [hy271];exact H)|exact H
          have Ny271:=Aside0.mk hy271
          clear hy271
          by_cases c17:(rd t264 x20_1) < (l0.length:Int)
          ·rw [if_pos c17] at H
           have c17b0:decide ((rd t264 x20_1) < (l0.length:Int)) = true:=decide_eq_true c17
           clear c17
           have H':=Aside0.mk H
           clear H
           have p270:0 ≤ (x20_1:Int):=of_decide_eq_true (by first|(with_reducible assumption)|assumption)
           have q270:x20_1 < (t264.length:Int):=of_decide_eq_true (by first|(with_reducible assumption)|assumption)
           obtain ⟨ad270,e270,hx270_0⟩:=Kd.at_int (Kd.R_reads' HO_18.out).2.2 x20_1 p270 q270
           cases e270
           replace p270:=eq_true p270
           replace q270:=eq_true q270
           have p16:0 ≤ ((rd t264 x20_1):Int):=of_decide_eq_true (by first|(with_reducible assumption)|assumption)
           have q16:((rd t264 x20_1):Int) < ((x4_1.length:Int):Int):=of_decide_eq_true (by first|(with_reducible assumption)|assumption)
           obtain ⟨go16,co16,eo16,gb16,gl16,cl16,HG16⟩:=Kd.R_form HO_4.out (by omega)
           (first|cases eo16|(injection eo16 with ea_ en_ ec_;(first|subst ea_|(injection ea_ with ea_;subst ea_));subst ec_;clear en_))
           have GB16:=Aside0.mk gb16
           have GG16:=Aside0.mk HG16
           clear gb16 gl16 HG16
           obtain ⟨hx16_0,hf16_0⟩:=Kd.R_celln 0 HO_4.out ((rd t264 x20_1):Int) p16 q16
           replace p16:=eq_true p16
           replace q16:=eq_true q16
           have HP18:=Kd.R_putg HO_4.out ((rd t264 x20_1):Int) x20_1
           go_wp2_with (first|((with_reducible refine gate_store (t:=3) (p:=28) rfl ?_);refine store_event (t:=3) (p:=28) (v:=?vo_w19) (w1:=(wr.setCell ⟨go16,((rd t264 x20_1):Int).toNat,none⟩ (.int .i64 x20_1))) ?hg ?ho ?hn ?hr ?_;(case ho=>rfl);(case hg=>rfl);(case hn=>rfl);(case hr=>first|(go_simp;done)|(go_simp;rfl));intro w19 hw;have hg:wr.grownBy w19 (some go16):=(by rw [hw];exact HP18.2);have hp_:Kd.R (Kd.int .i64) 3 w19 w.heap.size (fun k_=>some k_ ≠ (.slice (some ad270) t264.length co10:Value).ownBlock) (.slice (some ⟨go16,0,none⟩) x4_1.length co16) y271:=(by rw [hw,Ny271.out];exact HP18.1);clear HP18;have n0_:=Aside0.mk (hp_);have n1_:=Aside0.mk (Kd.R_after (v:=(.slice (some ⟨go16,0,none⟩) x4_1.length co16)) (v1:=(.slice (some ⟨go16,0,none⟩) x4_1.length co16)) (ok:=(fun k_=>some k_ ≠ (.slice (some ad270) t264.length co10:Value).ownBlock)) (by (with_reducible repeat (first|apply Kd.R_alloc|apply Kd.R_drewN|apply Kd.R_drew));exact Kd.R_mono HO_5.out (fun _ hk=>⟨hk.2,hk.1⟩)) hg (.inl rfl));have n2_:=Aside0.mk (Kd.R_after (v:=(.slice (some ⟨go16,0,none⟩) x4_1.length co16)) (v1:=(.slice (some ⟨go16,0,none⟩) x4_1.length co16)) (ok:=(fun _=>True)) (by (with_reducible repeat (first|apply Kd.R_alloc|apply Kd.R_drewN|apply Kd.R_drew));exact Kd.R_mono HO_18.out (fun _ hk=>⟨trivial,hk⟩)) hg (.inl rfl));have n3_:=Aside0.mk ((by rw [hw];exact below_set (HB.out) GB16.out:Below w.heap.size w w19));clear HO_4;clear HO_5;clear HO_18;clear HB;have HO_4:=n0_;have HO_5:=n1_;have HO_18:=n2_;have HB:=n3_;clear n0_ n1_ n2_ n3_;clear hg hw hp_;have p272:0 ≤ ((rd t264 x20_1):Int):=of_decide_eq_true (by first|(with_reducible assumption)|assumption);have q272:(rd t264 x20_1) < (l0.length:Int):=of_decide_eq_true (by first|(with_reducible assumption)|assumption);obtain ⟨ad272,A272_1,c272_1,A272_2,c272_2,A272_3,c272_3,e272,hx272_0,hx272_1,hx272_2,hx272_3,hl272_1,hi272_1,hl272_2,hi272_2,hl272_3,hi272_3⟩:=at_T83 HR0.out (rd t264 x20_1) p272 q272;cases e272;replace hx272_0:=(HB.out.cell (World.block_lt_of_cell? w _ hx272_0)).trans hx272_0;replace hx272_1:=(HB.out.cell (World.block_lt_of_cell? w _ hx272_1)).trans hx272_1;replace hx272_2:=(HB.out.cell (World.block_lt_of_cell? w _ hx272_2)).trans hx272_2;replace hx272_3:=(HB.out.cell (World.block_lt_of_cell? w _ hx272_3)).trans hx272_3;have HR272_1:=Aside0.mk hi272_1;have HC272_1:=Aside0.mk hl272_1;clear hi272_1 hl272_1;have HR272_2:=Aside0.mk hi272_2;have HC272_2:=Aside0.mk hl272_2;clear hi272_2 hl272_2;have HR272_3:=Aside0.mk hi272_3;have HC272_3:=Aside0.mk hl272_3;clear hi272_3 hl272_3;replace p272:=eq_true p272;replace q272:=eq_true q272))
           go_loopg [8,35] k1 (fun kq v8 v35 w'=>∃ (x8_2:List Int) (x35_2:Int),v35 = .int .i64 x35_2 ∧ Aside0 (spec_l9Trim.l1 kq l0 y271 x5_1 (rd t264 x20_1) x8_2 t264 (t264.length:Int) x20_1 ((rd_T83 l0 (rd t264 x20_1)).f1) (((rd_T83 l0 (rd t264 x20_1)).f1).length:Int) x35_2 = some r) ∧ Aside0 (kq ≤ k1) ∧ Aside0 (Kd.R (Kd.int .i64) 3 w' w.heap.size (fun k_=>some k_ ≠ (v8:Value).ownBlock ∧ some k_ ≠ ((.slice (some ad270) t264.length co10):Value).ownBlock) (.slice (some ⟨go16,0,none⟩) x4_1.length co16) y271) ∧ Aside0 (Kd.R k83 83 w' w.heap.size (fun k_=>some k_ ≠ ((.slice (some ⟨go16,0,none⟩) x4_1.length co16):Value).ownBlock ∧ some k_ ≠ (v8:Value).ownBlock ∧ some k_ ≠ ((.slice (some ad270) t264.length co10):Value).ownBlock) u5 x5_1) ∧ Aside0 (Kd.R (Kd.int .i64) 3 w' w.heap.size (fun k_=>some k_ ≠ ((.slice (some ⟨go16,0,none⟩) x4_1.length co16):Value).ownBlock ∧ some k_ ≠ ((.slice (some ad270) t264.length co10):Value).ownBlock) v8 x8_2) ∧ Aside0 (Kd.R (Kd.int .i64) 3 w' w.heap.size (fun k_=>some k_ ≠ ((.slice (some ⟨go16,0,none⟩) x4_1.length co16):Value).ownBlock ∧ some k_ ≠ (v8:Value).ownBlock) (.slice (some ad270) t264.length co10) t264) ∧ Aside0 (Below w.heap.size w w'))
           case atStart=>exact ⟨(([]:List Int)),(0),(by first|rfl|(simp;done)|(simp [*];done)),H',⟨Nat.le_refl _⟩,⟨by (with_reducible repeat (first|apply Kd.R_alloc|apply Kd.R_drewN|apply Kd.R_drew));exact Kd.R_mono HO_4.out (fun _ hk=>⟨(by simp [Value.ownBlock]),hk⟩)⟩,⟨by (with_reducible repeat (first|apply Kd.R_alloc|apply Kd.R_drewN|apply Kd.R_drew));exact Kd.R_mono HO_5.out (fun _ hk=>⟨hk.2,⟨(by simp [Value.ownBlock]),hk.1⟩⟩)⟩,⟨by first|exact Kd.R_nil _ _ _ _ _|exact Kd.N_nil _ _ _ _ _|exact Kd.V_nil _ _ _ _ _|exact Kd.Q_nil _ _ _ _ _|exact Kd.S_nil _ _ _ _ _⟩,⟨by (with_reducible repeat (first|apply Kd.R_alloc|apply Kd.R_drewN|apply Kd.R_drew));exact Kd.R_mono HO_18.out (fun _ hk=>⟨hk.2,(by simp [Value.ownBlock])⟩)⟩,⟨by repeat (first|(with_reducible first|exact HB.out|apply below_alloc|apply pw_below_drewN|apply below_drew1)|exact HB.out)⟩⟩
           case round =>
            clear H'
            try clear c1
            try clear p1
            try clear q1
            try clear hx1
            try clear hf1
            try clear c2
            try clear p2
            try clear q2
            try clear hx2
            try clear c4
            try clear c4b0
            try clear c4b1
            try clear c5
            try clear c5b0
            try clear c5b1
            try clear c6
            try clear c7
            try clear c11
            try clear c11b0
            try clear c12
            try clear c12b0
            try clear c13
            try clear c13b0
            try clear c14
            try clear c14b0
            try clear c15
            try clear c15b0
            try clear p16
            try clear q16
            try clear hx16
            try clear hf16
            try clear c17
            try clear c17b0
            try clear hx16_0
            try clear hx270_0
            try clear hx272_0
            try clear hx272_1
            try clear hx272_2
            try clear hx272_3
            try clear p16
            try clear p2
            try clear p270
            try clear p272
            try clear q16
            try clear q270
            try clear q272
            obtain ⟨x8_2,x35_2,rfl,HA,HK2,HO_4,HO_5,HO_8,HO_18,HB⟩:=hrel
            have hl4_2:=(Kd.R_reads' HO_4.out).1
            rw [hl4_2] at HO_4
            (try simp only [hl4_2])
            (try simp only [hl4_2] at HO_5)
            (try simp only [hl4_2] at HO_8)
            (try simp only [hl4_2] at HO_18)
            cases gk with
            | zero=>exact absurd HA.out (by simp [spec_l9Trim.l1])
            | succ k2 =>
             have H:=HA.out
             clear HA
             simp only [spec_l9Trim.l1] at H
             by_cases c20:x35_2 < (((rd_T83 l0 (rd t264 x20_1)).f1).length:Int)
             ·rw [if_pos c20] at H
              have c20b0:decide (x35_2 < (((rd_T83 l0 (rd t264 x20_1)).f1).length:Int)) = true:=decide_eq_true c20
              clear c20
              by_cases c21:0 ≤ x35_2
              ·rw [if_pos c21] at H
               have c21b0:decide (0 ≤ x35_2) = true:=decide_eq_true c21
               clear c21
               by_cases c22:x35_2 < (((rd_T83 l0 (rd t264 x20_1)).f1).length:Int)
               ·rw [if_pos c22] at H
                have c22b0:decide (x35_2 < (((rd_T83 l0 (rd t264 x20_1)).f1).length:Int)) = true:=decide_eq_true c22
                clear c22
                by_cases c23:0 ≤ (rd ((rd_T83 l0 (rd t264 x20_1)).f1) x35_2)
                ·rw [if_pos c23] at H
                 have c23b0:decide (0 ≤ (rd ((rd_T83 l0 (rd t264 x20_1)).f1) x35_2)) = true:=decide_eq_true c23
                 clear c23
                 by_cases c24:(rd ((rd_T83 l0 (rd t264 x20_1)).f1) x35_2) < (y271.length:Int)
                 ·rw [if_pos c24] at H
                  have c24b0:decide ((rd ((rd_T83 l0 (rd t264 x20_1)).f1) x35_2) < (y271.length:Int)) = true:=decide_eq_true c24
                  clear c24
                  by_cases c25:x8_2.length < 17592186044416
                  ·rw [if_pos c25] at H
                   have LMc25:=Aside0.mk c25
                   clear c25
                   obtain ⟨y275,hy275⟩:∃ y_:List Int,y_ = (x8_2 ++ [rd y271 (rd ((rd_T83 l0 (rd t264 x20_1)).f1) x35_2)]):=⟨_,rfl⟩
                   replace H:(spec_l9Trim.l1 k2 l0 y271 x5_1 (rd t264 x20_1) y275 t264 (t264.length:Int) x20_1 ((rd_T83 l0 (rd t264 x20_1)).f1) (((rd_T83 l0 (rd t264 x20_1)).f1).length:Int) (wrap64 (x35_2 + 1))) = some r:=by first|(rw [hy275];with_reducible exact H)|(have H2_:=(Option.bind_some _ _).symm.trans H;rw [hy275];with_reducible exact H2_)|(have H2_:=(Option.bind_some _ _).symm.trans H;with_reducible exact H2_)|with_reducible exact H|(rw [hy275];exact H)|exact H
                   have Ny275:=Aside0.mk hy275
                   clear hy275
                   have H':=Aside0.mk H
                   clear H
                   have p273:0 ≤ (x35_2:Int):=of_decide_eq_true (by first|(with_reducible assumption)|assumption)
                   have q273:x35_2 < (((rd_T83 l0 (rd t264 x20_1)).f1).length:Int):=of_decide_eq_true (by first|(with_reducible assumption)|assumption)
                   obtain ⟨ad273,e273,hx273_0⟩:=Kd.at_int HR272_1.out x35_2 p273 q273
                   cases e273
                   replace hx273_0:=(HB.out.cell (World.block_lt_of_cell? w _ hx273_0)).trans hx273_0
                   replace p273:=eq_true p273
                   replace q273:=eq_true q273
                   have p274:0 ≤ ((rd ((rd_T83 l0 (rd t264 x20_1)).f1) x35_2):Int):=of_decide_eq_true (by first|(with_reducible assumption)|assumption)
                   have q274:(rd ((rd_T83 l0 (rd t264 x20_1)).f1) x35_2) < (y271.length:Int):=of_decide_eq_true (by first|(with_reducible assumption)|assumption)
                   obtain ⟨ad274,e274,hx274_0⟩:=Kd.at_int (Kd.R_reads' HO_4.out).2.2 (rd ((rd_T83 l0 (rd t264 x20_1)).f1) x35_2) p274 q274
                   obtain rfl:(⟨go16,0,none⟩:Addr) = ad274:=(by injection e274)
                   (first|simp only [add_plain] at hx274_0|simp only [add_at] at hx274_0|simp only [Addr.add,Nat.zero_add] at hx274_0|skip)
                   replace p274:=eq_true p274
                   replace q274:=eq_true q274
                   go_wp2_with (first|((with_reducible refine gate_builtin (b:=.append) (xs:=#[.tmp 39,.tmp 44]) rfl ?_);at_builtin;refine Kd.R_append (Kd.int .i64) (w0:=w) w.heap.size rfl (.tmp 39) (.tmp 44) 22 3 (.int .i64 0) 8 rfl Try.underlying22 info3 rfl (by decide) (by first|decide|omega) u8 x8_2 (rd y271 (rd ((rd_T83 l0 (rd t264 x20_1)).f1) x35_2)) [.int .i64 (rd y271 (rd ((rd_T83 l0 (rd t264 x20_1)).f1) x35_2))] (fun k_=>some k_ ≠ (.slice (some ⟨go16,0,none⟩) y271.length co16:Value).ownBlock ∧ some k_ ≠ (.slice (some ad270) t264.length co10:Value).ownBlock) (fun _=>False) rfl rfl ?aP (fun _ hk=>hk.elim) ?aF ?aO ?aB ?aS ?aL ?_;(case aP=>exact rfl);(case aB=>exact (by repeat (first|(with_reducible first|exact HB.out|apply below_alloc|apply pw_below_drewN|apply below_drew1)|exact HB.out)));(case aF=>exact (fun k_ hk=>⟨Kd.fresh' (Kd.R_lt (by (with_reducible repeat (first|apply Kd.R_alloc|apply Kd.R_drewN|apply Kd.R_drew));exact HO_4.out)) k_ hk,Kd.fresh' (Kd.R_lt (by (with_reducible repeat (first|apply Kd.R_alloc|apply Kd.R_drewN|apply Kd.R_drew));exact HO_18.out)) k_ hk⟩));(case aO=>exact (by (with_reducible repeat (first|apply Kd.R_alloc|apply Kd.R_drewN|apply Kd.R_drew));exact HO_8.out));(case aS=>exact (below_size (by repeat (first|(with_reducible first|exact HB.out|apply below_alloc|apply pw_below_drewN|apply below_drew1)|exact HB.out))));(case aL=>have:=LMc25.out;omega);intro v276 w26 ho hb hg hat;rw [← Ny275.out] at ho;have n0_:=Aside0.mk (Kd.R_after (ok:=(fun k_=>some k_ ≠ (.slice (some ad270) t264.length co10:Value).ownBlock)) (by (with_reducible repeat (first|apply Kd.R_alloc|apply Kd.R_drewN|apply Kd.R_drew));exact Kd.R_mono HO_4.out (fun _ hk=>⟨hk.2,hk.1⟩)) hg hat);have n1_:=Aside0.mk (Kd.R_after (ok:=(fun k_=>some k_ ≠ (.slice (some ⟨go16,0,none⟩) y271.length co16:Value).ownBlock ∧ some k_ ≠ (.slice (some ad270) t264.length co10:Value).ownBlock)) (by (with_reducible repeat (first|apply Kd.R_alloc|apply Kd.R_drewN|apply Kd.R_drew));exact Kd.R_mono HO_5.out (fun _ hk=>⟨⟨hk.1,hk.2.2⟩,hk.2.1⟩)) hg hat);have n2_:=Aside0.mk (Kd.R_after (ok:=(fun k_=>some k_ ≠ (.slice (some ⟨go16,0,none⟩) y271.length co16:Value).ownBlock)) (by (with_reducible repeat (first|apply Kd.R_alloc|apply Kd.R_drewN|apply Kd.R_drew));exact HO_18.out) hg hat);have n3_:=Aside0.mk (hb);have n4_:=Aside0.mk (ho);clear HO_4;clear HO_5;clear HO_18;clear HB;clear HO_8;have HO_4:=n0_;have HO_5:=n1_;have HO_18:=n2_;have HB:=n3_;have HO277:=n4_;clear n0_ n1_ n2_ n3_ n4_;clear ho hb hg hat))
                   (try simp only [← hl4_2])
                   go_roundg k2
                   case measure=>have:=HK1.out;have:=HK2.out;omega
                   case rel=>exact ⟨(y275),(wrap64 (x35_2 + 1)),(by first|rfl|(simp;done)|(simp [*];done)),H',⟨by have:=HK1.out;have:=HK2.out;omega⟩,⟨by (try simp only [hl4_2]);(with_reducible repeat (first|apply Kd.R_alloc|apply Kd.R_drewN|apply Kd.R_drew));exact Kd.R_mono HO_4.out (fun _ hk=>⟨hk.2,hk.1⟩)⟩,⟨by (try simp only [hl4_2]);(with_reducible repeat (first|apply Kd.R_alloc|apply Kd.R_drewN|apply Kd.R_drew));exact Kd.R_mono HO_5.out (fun _ hk=>⟨hk.1.1,⟨hk.2,hk.1.2⟩⟩)⟩,⟨by (try simp only [hl4_2]);(with_reducible repeat (first|apply Kd.R_alloc|apply Kd.R_drewN|apply Kd.R_drew));exact HO277.out⟩,⟨by (try simp only [hl4_2]);(with_reducible repeat (first|apply Kd.R_alloc|apply Kd.R_drewN|apply Kd.R_drew));exact HO_18.out⟩,⟨by repeat (first|(with_reducible first|exact HB.out|apply below_alloc|apply pw_below_drewN|apply below_drew1)|exact HB.out)⟩⟩
                  ·rw [if_neg c25] at H
                   exact absurd H (by simp)
                 ·rw [if_neg c24] at H
                  exact absurd H (by simp)
                ·rw [if_neg c23] at H
                 exact absurd H (by simp)
               ·rw [if_neg c22] at H
                exact absurd H (by simp)
              ·rw [if_neg c21] at H
               exact absurd H (by simp)
             ·rw [if_neg c20] at H
              have c20b0:decide (x35_2 < (((rd_T83 l0 (rd t264 x20_1)).f1).length:Int)) = false:=decide_eq_false c20
              clear c20
              by_cases c27:0 ≤ (rd t264 x20_1)
              ·rw [if_pos c27] at H
               have c27b0:decide (0 ≤ (rd t264 x20_1)) = true:=decide_eq_true c27
               clear c27
               by_cases c28:(rd t264 x20_1) < (l0.length:Int)
               ·rw [if_pos c28] at H
                have c28b0:decide ((rd t264 x20_1) < (l0.length:Int)) = true:=decide_eq_true c28
                clear c28
                replace H:=Option.bind_eq_some_iff.mp H
                obtain ⟨t280,A290,H⟩:=H
                replace H:((spec_l4Own.f k2 ((rd_T83 l0 (rd t264 x20_1)).f3)).bind fun t284=>(if x5_1.length < 1759218604441 then (spec_l9Trim.l0 k2 l0 y271 (x5_1 ++ [(⟨(rd_T83 l0 (rd t264 x20_1)).f0,x8_2,t280,t284⟩:S83)]) t264 (t264.length:Int) (wrap64 (x20_1 + 1))) else (none))) = some r:=H
                have A29:=Aside0.mk A290
                clear A290
                replace H:=Option.bind_eq_some_iff.mp H
                obtain ⟨t284,A300,H⟩:=H
                replace H:(if x5_1.length < 1759218604441 then (spec_l9Trim.l0 k2 l0 y271 (x5_1 ++ [(⟨(rd_T83 l0 (rd t264 x20_1)).f0,x8_2,t280,t284⟩:S83)]) t264 (t264.length:Int) (wrap64 (x20_1 + 1))) else (none)) = some r:=H
                have A30:=Aside0.mk A300
                clear A300
                by_cases c31:x5_1.length < 1759218604441
                ·rw [if_pos c31] at H
                 have LMc31:=Aside0.mk c31
                 clear c31
                 obtain ⟨y287,hy287⟩:∃ y_:List (S83),y_ = (x5_1 ++ [(⟨(rd_T83 l0 (rd t264 x20_1)).f0,x8_2,t280,t284⟩:S83)]):=⟨_,rfl⟩
                 replace H:(spec_l9Trim.l0 k2 l0 y271 y287 t264 (t264.length:Int) (wrap64 (x20_1 + 1))) = some r:=by first|(rw [hy287];with_reducible exact H)|(have H2_:=(Option.bind_some _ _).symm.trans H;rw [hy287];with_reducible exact H2_)|(have H2_:=(Option.bind_some _ _).symm.trans H;with_reducible exact H2_)|with_reducible exact H|(rw [hy287];exact H)|exact H
                 have Ny287:=Aside0.mk hy287
                 clear hy287
                 have H':=Aside0.mk H
                 clear H
                 try go_wp2
                 have n0_:=Aside0.mk (Kd.R_drew HO_4.out)
                 have n1_:=Aside0.mk (Kd.R_drew HO_5.out)
                 have n2_:=Aside0.mk (Kd.R_drew HO_8.out)
                 have n3_:=Aside0.mk (Kd.R_drew HO_18.out)
                 have n4_:=Aside0.mk (below_drew1 HB.out)
                 clear HO_4
                 clear HO_5
                 clear HO_8
                 clear HO_18
                 clear HB
                 have HO_4:=n0_
                 have HO_5:=n1_
                 have HO_8:=n2_
                 have HO_18:=n3_
                 have HB:=n4_
                 clear n0_ n1_ n2_ n3_ n4_
                 have p278:0 ≤ ((rd t264 x20_1):Int):=of_decide_eq_true (by first|(with_reducible assumption)|assumption)
                 have q278:(rd t264 x20_1) < (l0.length:Int):=of_decide_eq_true (by first|(with_reducible assumption)|assumption)
                 obtain ⟨ad278,A278_1,c278_1,A278_2,c278_2,A278_3,c278_3,e278,hx278_0,hx278_1,hx278_2,hx278_3,hl278_1,hi278_1,hl278_2,hi278_2,hl278_3,hi278_3⟩:=at_T83 HR0.out (rd t264 x20_1) p278 q278
                 have hw278_3:=hx278_3
                 have hw278_2:=hx278_2
                 have hw278_1:=hx278_1
                 have hw278_0:=hx278_0
                 obtain rfl:ad272 = ad278:=(by injection e278)
                 replace hx278_0:=(HB.out.cell (World.block_lt_of_cell? w _ hx278_0)).trans hx278_0
                 replace hx278_1:=(HB.out.cell (World.block_lt_of_cell? w _ hx278_1)).trans hx278_1
                 replace hx278_2:=(HB.out.cell (World.block_lt_of_cell? w _ hx278_2)).trans hx278_2
                 replace hx278_3:=(HB.out.cell (World.block_lt_of_cell? w _ hx278_3)).trans hx278_3
                 have HR278_1:=Aside0.mk hi278_1
                 have HC278_1:=Aside0.mk hl278_1
                 clear hi278_1 hl278_1
                 have HR278_2:=Aside0.mk hi278_2
                 have HC278_2:=Aside0.mk hl278_2
                 clear hi278_2 hl278_2
                 have HR278_3:=Aside0.mk hi278_3
                 have HC278_3:=Aside0.mk hl278_3
                 clear hi278_3 hl278_3
                 replace p278:=eq_true p278
                 replace q278:=eq_true q278
                 have p279:0 ≤ ((rd t264 x20_1):Int):=of_decide_eq_true (by first|(with_reducible assumption)|assumption)
                 have q279:(rd t264 x20_1) < (l0.length:Int):=of_decide_eq_true (by first|(with_reducible assumption)|assumption)
                 obtain ⟨ad279,A279_1,c279_1,A279_2,c279_2,A279_3,c279_3,e279,hx279_0,hx279_1,hx279_2,hx279_3,hl279_1,hi279_1,hl279_2,hi279_2,hl279_3,hi279_3⟩:=at_T83 HR0.out (rd t264 x20_1) p279 q279
                 have hw279_3:=hx279_3
                 have hw279_2:=hx279_2
                 have hw279_1:=hx279_1
                 have hw279_0:=hx279_0
                 obtain rfl:ad272 = ad279:=(by injection e279)
                 replace hx279_0:=(HB.out.cell (World.block_lt_of_cell? w _ hx279_0)).trans hx279_0
                 replace hx279_1:=(HB.out.cell (World.block_lt_of_cell? w _ hx279_1)).trans hx279_1
                 replace hx279_2:=(HB.out.cell (World.block_lt_of_cell? w _ hx279_2)).trans hx279_2
                 replace hx279_3:=(HB.out.cell (World.block_lt_of_cell? w _ hx279_3)).trans hx279_3
                 have HR279_1:=Aside0.mk hi279_1
                 have HC279_1:=Aside0.mk hl279_1
                 clear hi279_1 hl279_1
                 have HR279_2:=Aside0.mk hi279_2
                 have HC279_2:=Aside0.mk hl279_2
                 clear hi279_2 hl279_2
                 have HR279_3:=Aside0.mk hi279_3
                 have HC279_3:=Aside0.mk hl279_3
                 clear hi279_3 hl279_3
                 replace p279:=eq_true p279
                 replace q279:=eq_true q279
                 have ea_:=Option.some.inj (hx278_1.symm.trans hx279_1)
                 injection ea_ with ea_ en_ ec_
                 subst ea_
                 subst ec_
                 clear en_
                 have ea_:=Option.some.inj (hx278_2.symm.trans hx279_2)
                 injection ea_ with ea_ en_ ec_
                 subst ea_
                 subst ec_
                 clear en_
                 have ea_:=Option.some.inj (hx278_3.symm.trans hx279_3)
                 injection ea_ with ea_ en_ ec_
                 subst ea_
                 subst ec_
                 clear en_
                 have p283:0 ≤ ((rd t264 x20_1):Int):=of_decide_eq_true (by first|(with_reducible assumption)|assumption)
                 have q283:(rd t264 x20_1) < (l0.length:Int):=of_decide_eq_true (by first|(with_reducible assumption)|assumption)
                 obtain ⟨ad283,A283_1,c283_1,A283_2,c283_2,A283_3,c283_3,e283,hx283_0,hx283_1,hx283_2,hx283_3,hl283_1,hi283_1,hl283_2,hi283_2,hl283_3,hi283_3⟩:=at_T83 HR0.out (rd t264 x20_1) p283 q283
                 have hw283_3:=hx283_3
                 have hw283_2:=hx283_2
                 have hw283_1:=hx283_1
                 have hw283_0:=hx283_0
                 obtain rfl:ad272 = ad283:=(by injection e283)
                 replace hx283_0:=(HB.out.cell (World.block_lt_of_cell? w _ hx283_0)).trans hx283_0
                 replace hx283_1:=(HB.out.cell (World.block_lt_of_cell? w _ hx283_1)).trans hx283_1
                 replace hx283_2:=(HB.out.cell (World.block_lt_of_cell? w _ hx283_2)).trans hx283_2
                 replace hx283_3:=(HB.out.cell (World.block_lt_of_cell? w _ hx283_3)).trans hx283_3
                 have HR283_1:=Aside0.mk hi283_1
                 have HC283_1:=Aside0.mk hl283_1
                 clear hi283_1 hl283_1
                 have HR283_2:=Aside0.mk hi283_2
                 have HC283_2:=Aside0.mk hl283_2
                 clear hi283_2 hl283_2
                 have HR283_3:=Aside0.mk hi283_3
                 have HC283_3:=Aside0.mk hl283_3
                 clear hi283_3 hl283_3
                 replace p283:=eq_true p283
                 replace q283:=eq_true q283
                 have ea_:=Option.some.inj (hx278_1.symm.trans hx283_1)
                 injection ea_ with ea_ en_ ec_
                 subst ea_
                 subst ec_
                 clear en_
                 have ea_:=Option.some.inj (hx278_2.symm.trans hx283_2)
                 injection ea_ with ea_ en_ ec_
                 subst ea_
                 subst ec_
                 clear en_
                 have ea_:=Option.some.inj (hx278_3.symm.trans hx283_3)
                 injection ea_ with ea_ en_ ec_
                 subst ea_
                 subst ec_
                 clear en_
                 refine start_ (n:=23) (S:=fun w'=>w'.cell? (ad272.add (((rd t264 x20_1)).toNat * 4)) = some (.int .i64 ((rd_T83 l0 (rd t264 x20_1)).f0)) ∧ w'.cell? ⟨(ad272.add (((rd t264 x20_1)).toNat * 4)).block,(ad272.add (((rd t264 x20_1)).toNat * 4)).off + 1,none⟩ = some (.slice A278_1 ((rd_T83 l0 (rd t264 x20_1)).f1).length c278_1) ∧ w'.cell? ⟨(ad272.add (((rd t264 x20_1)).toNat * 4)).block,(ad272.add (((rd t264 x20_1)).toNat * 4)).off + 2,none⟩ = some (.slice A278_2 ((rd_T83 l0 (rd t264 x20_1)).f2).length c278_2) ∧ w'.cell? ⟨(ad272.add (((rd t264 x20_1)).toNat * 4)).block,(ad272.add (((rd t264 x20_1)).toNat * 4)).off + 3,none⟩ = some (.slice A278_3 ((rd_T83 l0 (rd t264 x20_1)).f3).length c278_3) ∧ w'.cell? (ad272.add (((rd t264 x20_1)).toNat * 4)) = some (.int .i64 ((rd_T83 l0 (rd t264 x20_1)).f0)) ∧ w'.cell? ⟨(ad272.add (((rd t264 x20_1)).toNat * 4)).block,(ad272.add (((rd t264 x20_1)).toNat * 4)).off + 1,none⟩ = some (.slice A278_1 ((rd_T83 l0 (rd t264 x20_1)).f1).length c278_1) ∧ w'.cell? ⟨(ad272.add (((rd t264 x20_1)).toNat * 4)).block,(ad272.add (((rd t264 x20_1)).toNat * 4)).off + 2,none⟩ = some (.slice A278_2 ((rd_T83 l0 (rd t264 x20_1)).f2).length c278_2) ∧ w'.cell? ⟨(ad272.add (((rd t264 x20_1)).toNat * 4)).block,(ad272.add (((rd t264 x20_1)).toNat * 4)).off + 3,none⟩ = some (.slice A278_3 ((rd_T83 l0 (rd t264 x20_1)).f3).length c278_3) ∧ w'.cell? (ad272.add (((rd t264 x20_1)).toNat * 4)) = some (.int .i64 ((rd_T83 l0 (rd t264 x20_1)).f0)) ∧ w'.cell? ⟨(ad272.add (((rd t264 x20_1)).toNat * 4)).block,(ad272.add (((rd t264 x20_1)).toNat * 4)).off + 1,none⟩ = some (.slice A278_1 ((rd_T83 l0 (rd t264 x20_1)).f1).length c278_1) ∧ w'.cell? ⟨(ad272.add (((rd t264 x20_1)).toNat * 4)).block,(ad272.add (((rd t264 x20_1)).toNat * 4)).off + 2,none⟩ = some (.slice A278_2 ((rd_T83 l0 (rd t264 x20_1)).f2).length c278_2) ∧ w'.cell? ⟨(ad272.add (((rd t264 x20_1)).toNat * 4)).block,(ad272.add (((rd t264 x20_1)).toNat * 4)).off + 3,none⟩ = some (.slice A278_3 ((rd_T83 l0 (rd t264 x20_1)).f3).length c278_3)) (ds:=[]) #[false,false,false,false,false,false,false,false,false,false,false,false,false,false,false,false,false,false,false,false,false,false,false] (by kernel_rfl) rfl rfl ⟨((HB.out.cell (World.block_lt_of_cell? w _ hw278_0)).trans hw278_0),((HB.out.cell (World.block_lt_of_cell? w _ hw278_1)).trans hw278_1),((HB.out.cell (World.block_lt_of_cell? w _ hw278_2)).trans hw278_2),((HB.out.cell (World.block_lt_of_cell? w _ hw278_3)).trans hw278_3),((HB.out.cell (World.block_lt_of_cell? w _ hw279_0)).trans hw279_0),((HB.out.cell (World.block_lt_of_cell? w _ hw279_1)).trans hw279_1),((HB.out.cell (World.block_lt_of_cell? w _ hw279_2)).trans hw279_2),((HB.out.cell (World.block_lt_of_cell? w _ hw279_3)).trans hw279_3),((HB.out.cell (World.block_lt_of_cell? w _ hw283_0)).trans hw283_0),((HB.out.cell (World.block_lt_of_cell? w _ hw283_1)).trans hw283_1),((HB.out.cell (World.block_lt_of_cell? w _ hw283_2)).trans hw283_2),((HB.out.cell (World.block_lt_of_cell? w _ hw283_3)).trans hw283_3)⟩ (fun hHeld=>?_);refine with_tabW spec_l9Trim.tab14 spec_l9Trim.bits14 (fun HT_ HW_=>?_)
                 generalize wr.drew = w32 at HO_4 HO_5 HO_8 HO_18 HB HR278_1 HR278_2 HR278_3 HR279_1 HR279_2 HR279_3 HR283_1 HR283_2 HR283_3 hx278_0 hx278_1 hx278_2 hx278_3 hx279_0 hx279_1 hx279_2 hx279_3 hx283_0 hx283_1 hx283_2 hx283_3 hHeld ⊢
                 refine pure_ (i:=0) (N:=some 47) (v:=?_) (a':=?_) #[true,false,false,false,false,false,false,false,false,false,false,false,false,false,false,false,false,false,false,false,false,false,false] rfl rfl (any_of HT_.out (by kernel_rfl)) (fun _ _ _ h=>h) (Or.inl ⟨by rfl,?_⟩) ?_ ?_
                 rotate_left
                 ·intro w'
                  go_simp
                  with_reducible rfl
                 rotate_left
                 ·simp only [Act.put,List.setIfInBounds_toArray,List.set_cons_zero,List.set_cons_succ,i64_w,i32_w]
                  rfl
                 refine pure_ (i:=1) (N:=some 48) (v:=?_) (a':=?_) #[true,true,false,false,false,false,false,false,false,false,false,false,false,false,false,false,false,false,false,false,false,false,false] rfl rfl (any_of HT_.out (by kernel_rfl)) (fun _ _ _ h=>h) (Or.inl ⟨by rfl,?_⟩) ?_ ?_
                 rotate_left
                 ·intro w'
                  go_simp
                  with_reducible rfl
                 rotate_left
                 ·simp only [Act.put,List.setIfInBounds_toArray,List.set_cons_zero,List.set_cons_succ,i64_w,i32_w]
                  rfl
                 refine pure_ (i:=2) (N:=some 49) (v:=?_) (a':=?_) #[true,true,true,false,false,false,false,false,false,false,false,false,false,false,false,false,false,false,false,false,false,false,false] rfl rfl (any_of HT_.out (by kernel_rfl)) (fun _ _ _ h=>h) (Or.inl ⟨by rfl,?_⟩) ?_ ?_
                 rotate_left
                 ·intro w'
                  go_simp
                  with_reducible rfl
                 rotate_left
                 ·simp only [Act.put,List.setIfInBounds_toArray,List.set_cons_zero,List.set_cons_succ,i64_w,i32_w]
                  rfl
                 refine pure_ (i:=3) (N:=some 50) (v:=?_) (a':=?_) #[true,true,true,true,false,false,false,false,false,false,false,false,false,false,false,false,false,false,false,false,false,false,false] rfl rfl (any_of HT_.out (by kernel_rfl)) (fun _ _ _ h=>h) (Or.inl ⟨by rfl,?_⟩) ?_ ?_
                 rotate_left
                 ·intro w'
                  go_simp
                  with_reducible rfl
                 rotate_left
                 ·simp only [Act.put,List.setIfInBounds_toArray,List.set_cons_zero,List.set_cons_succ,i64_w,i32_w]
                  rfl
                 refine pure_ (i:=4) (N:=some 51) (v:=?_) (a':=?_) #[true,true,true,true,true,false,false,false,false,false,false,false,false,false,false,false,false,false,false,false,false,false,false] rfl rfl (any_of HT_.out (by kernel_rfl)) (fun _ _ _ h=>h) (Or.inl ⟨by rfl,?_⟩) ?_ ?_
                 rotate_left
                 ·intro w'
                  go_simp
                  with_reducible rfl
                 rotate_left
                 ·simp only [Act.put,List.setIfInBounds_toArray,List.set_cons_zero,List.set_cons_succ,i64_w,i32_w]
                  rfl
                 refine pure_ (i:=6) (N:=some 53) (v:=?_) (a':=?_) #[true,true,true,true,true,false,true,false,false,false,false,false,false,false,false,false,false,false,false,false,false,false,false] rfl rfl (any_of HT_.out (by kernel_rfl)) (fun _ _ _ h=>h) (Or.inl ⟨by rfl,?_⟩) ?_ ?_
                 rotate_left
                 ·intro w'
                  go_simp
                  with_reducible rfl
                 rotate_left
                 ·simp only [Act.put,List.setIfInBounds_toArray,List.set_cons_zero,List.set_cons_succ,i64_w,i32_w]
                  rfl
                 refine pure_ (i:=7) (N:=some 54) (v:=?_) (a':=?_) #[true,true,true,true,true,false,true,true,false,false,false,false,false,false,false,false,false,false,false,false,false,false,false] rfl rfl (any_of HT_.out (by kernel_rfl)) (fun _ _ _ h=>h) (Or.inl ⟨by rfl,?_⟩) ?_ ?_
                 rotate_left
                 ·intro w'
                  go_simp
                  with_reducible rfl
                 rotate_left
                 ·simp only [Act.put,List.setIfInBounds_toArray,List.set_cons_zero,List.set_cons_succ,i64_w,i32_w]
                  rfl
                 refine pure_ (i:=8) (N:=some 55) (v:=?_) (a':=?_) #[true,true,true,true,true,false,true,true,true,false,false,false,false,false,false,false,false,false,false,false,false,false,false] rfl rfl (any_of HT_.out (by kernel_rfl)) (fun _ _ _ h=>h) (Or.inl ⟨by rfl,?_⟩) ?_ ?_
                 rotate_left
                 ·intro w'
                  go_simp
                  with_reducible rfl
                 rotate_left
                 ·simp only [Act.put,List.setIfInBounds_toArray,List.set_cons_zero,List.set_cons_succ,i64_w,i32_w]
                  rfl
                 refine pure_ (i:=9) (N:=some 56) (v:=?_) (a':=?_) #[true,true,true,true,true,false,true,true,true,true,false,false,false,false,false,false,false,false,false,false,false,false,false] rfl rfl (any_of HT_.out (by kernel_rfl)) (fun _ _ _ h=>h) (Or.inl ⟨by rfl,?_⟩) ?_ ?_
                 rotate_left
                 ·intro w'
                  go_simp
                  with_reducible rfl
                 rotate_left
                 ·simp only [Act.put,List.setIfInBounds_toArray,List.set_cons_zero,List.set_cons_succ,i64_w,i32_w]
                  rfl
                 refine pure_ (i:=10) (N:=some 57) (v:=?_) (a':=?_) #[true,true,true,true,true,false,true,true,true,true,true,false,false,false,false,false,false,false,false,false,false,false,false] rfl rfl (any_of HT_.out (by kernel_rfl)) (fun _ _ _ h=>h) (Or.inl ⟨by rfl,?_⟩) ?_ ?_
                 rotate_left
                 ·intro w'
                  go_simp
                  with_reducible rfl
                 rotate_left
                 ·simp only [Act.put,List.setIfInBounds_toArray,List.set_cons_zero,List.set_cons_succ,i64_w,i32_w]
                  rfl
                 refine pure_ (i:=13) (N:=some 60) (v:=?_) (a':=?_) #[true,true,true,true,true,false,true,true,true,true,true,false,false,true,false,false,false,false,false,false,false,false,false] rfl rfl (any_of HT_.out (by kernel_rfl)) (fun _ _ _ h=>h) (Or.inl ⟨by rfl,?_⟩) ?_ ?_
                 rotate_left
                 ·intro w'
                  go_simp
                  with_reducible rfl
                 rotate_left
                 ·simp only [Act.put,List.setIfInBounds_toArray,List.set_cons_zero,List.set_cons_succ,i64_w,i32_w]
                  rfl
                 refine pure_ (i:=14) (N:=some 61) (v:=?_) (a':=?_) #[true,true,true,true,true,false,true,true,true,true,true,false,false,true,true,false,false,false,false,false,false,false,false] rfl rfl (any_of HT_.out (by kernel_rfl)) (fun _ _ _ h=>h) (Or.inl ⟨by rfl,?_⟩) ?_ ?_
                 rotate_left
                 ·intro w'
                  go_simp
                  with_reducible rfl
                 rotate_left
                 ·simp only [Act.put,List.setIfInBounds_toArray,List.set_cons_zero,List.set_cons_succ,i64_w,i32_w]
                  rfl
                 refine pure_ (i:=15) (N:=some 62) (v:=?_) (a':=?_) #[true,true,true,true,true,false,true,true,true,true,true,false,false,true,true,true,false,false,false,false,false,false,false] rfl rfl (any_of HT_.out (by kernel_rfl)) (fun _ _ _ h=>h) (Or.inl ⟨by rfl,?_⟩) ?_ ?_
                 rotate_left
                 ·intro w'
                  go_simp
                  with_reducible rfl
                 rotate_left
                 ·simp only [Act.put,List.setIfInBounds_toArray,List.set_cons_zero,List.set_cons_succ,i64_w,i32_w]
                  rfl
                 refine pure_ (i:=16) (N:=some 63) (v:=?_) (a':=?_) #[true,true,true,true,true,false,true,true,true,true,true,false,false,true,true,true,true,false,false,false,false,false,false] rfl rfl (any_of HT_.out (by kernel_rfl)) (fun _ _ _ h=>h) (Or.inl ⟨by rfl,?_⟩) ?_ ?_
                 rotate_left
                 ·intro w'
                  go_simp
                  with_reducible rfl
                 rotate_left
                 ·simp only [Act.put,List.setIfInBounds_toArray,List.set_cons_zero,List.set_cons_succ,i64_w,i32_w]
                  rfl
                 refine take_ (i:=5) (N:=some 52) (v:=?_) (a':=?_) #[true,true,true,true,true,true,true,true,true,true,true,false,false,true,true,true,true,false,false,false,false,false,false] rfl rfl (take_ofW HT_.out HW_.out (by kernel_rfl)) (fun _ _ _ h=>h) (Or.inl ⟨by rfl,?_⟩) hHeld ?_ ?_
                 rotate_left
                 ·rintro w' ⟨s0,s1,s2,s3,s4,s5,s6,s7,s8,s9,s10,s11⟩
                  go_simp
                  with_reducible rfl
                 rotate_left
                 ·simp only [Act.put,List.setIfInBounds_toArray,List.set_cons_zero,List.set_cons_succ,i64_w,i32_w]
                  rfl
                 refine take_ (i:=11) (N:=some 58) (v:=?_) (a':=?_) #[true,true,true,true,true,true,true,true,true,true,true,true,false,true,true,true,true,false,false,false,false,false,false] rfl rfl (take_ofW HT_.out HW_.out (by kernel_rfl)) (fun _ _ _ h=>h) (Or.inl ⟨by rfl,?_⟩) hHeld ?_ ?_
                 rotate_left
                 ·rintro w' ⟨s0,s1,s2,s3,s4,s5,s6,s7,s8,s9,s10,s11⟩
                  go_simp
                  with_reducible rfl
                 rotate_left
                 ·simp only [Act.put,List.setIfInBounds_toArray,List.set_cons_zero,List.set_cons_succ,i64_w,i32_w]
                  rfl
                 refine take_ (i:=17) (N:=some 64) (v:=?_) (a':=?_) #[true,true,true,true,true,true,true,true,true,true,true,true,false,true,true,true,true,true,false,false,false,false,false] rfl rfl (take_ofW HT_.out HW_.out (by kernel_rfl)) (fun _ _ _ h=>h) (Or.inl ⟨by rfl,?_⟩) hHeld ?_ ?_
                 rotate_left
                 ·rintro w' ⟨s0,s1,s2,s3,s4,s5,s6,s7,s8,s9,s10,s11⟩
                  go_simp
                  with_reducible rfl
                 rotate_left
                 ·simp only [Act.put,List.setIfInBounds_toArray,List.set_cons_zero,List.set_cons_succ,i64_w,i32_w]
                  rfl
                 refine one_ (i:=12) (N:=some 59) #[true,true,true,true,true,true,true,true,true,true,true,true,true,true,true,true,true,true,false,false,false,false,false] rfl rfl (one_of HT_.out (by kernel_rfl)) (by decide) (fun K hK=>?_)
                 refine goes_ Try.func106 (by kernel_rfl) rfl #[.slice A278_2 ((rd_T83 l0 (rd t264 x20_1)).f2).length c278_2] (by rfl) rfl rfl (by (try simp only [List.map_toArray,List.map_cons,List.map_nil]);first|done|rfl|(simp only [List.length_drop,List.length_take];rfl)) ?_
                 with_reducible refine (spec_l1Own.calls _ _ ((rd_T83 l0 (rd t264 x20_1)).f2) t280 _ ?side1 ?side2 A29.out).mono ?_
                 (case side1=>repeat (first|exact (Kd.C_below HR279_2.out HB.out)|(with_reducible refine Kd.C_alloc ?_ _)|(with_reducible refine Kd.C_drewN ?_ _)|(with_reducible refine Kd.C_drew ?_)))
                 (case side2=>exact HC279_2.out)
                 rintro e w33 ⟨v281,rfl,ho0,hb⟩
                 refine ⟨_,rfl,?_⟩
                 have n0_:=Aside0.mk (Kd.R_elder' (by (with_reducible repeat (first|apply Kd.R_alloc|apply Kd.R_drewN|apply Kd.R_drew));exact HO_4.out) (Kd.R_base ho0) hb)
                 have n1_:=Aside0.mk (Kd.R_elder' (by (with_reducible repeat (first|apply Kd.R_alloc|apply Kd.R_drewN|apply Kd.R_drew));exact HO_5.out) (Kd.R_base ho0) hb)
                 have n2_:=Aside0.mk (Kd.R_elder' (by (with_reducible repeat (first|apply Kd.R_alloc|apply Kd.R_drewN|apply Kd.R_drew));exact HO_8.out) (Kd.R_base ho0) hb)
                 have n3_:=Aside0.mk (Kd.R_elder' (by (with_reducible repeat (first|apply Kd.R_alloc|apply Kd.R_drewN|apply Kd.R_drew));exact HO_18.out) (Kd.R_base ho0) hb)
                 have n4_:=Aside0.mk (Kd.R_lower (Kd.R_new' (Kd.R_new' (Kd.R_new' ho0 (Kd.R_lt (by (with_reducible repeat (first|apply Kd.R_alloc|apply Kd.R_drewN|apply Kd.R_drew));exact HO_4.out))) (Kd.R_lt (by (with_reducible repeat (first|apply Kd.R_alloc|apply Kd.R_drewN|apply Kd.R_drew));exact HO_8.out))) (Kd.R_lt (by (with_reducible repeat (first|apply Kd.R_alloc|apply Kd.R_drewN|apply Kd.R_drew));exact HO_18.out))) (below_size (by repeat (first|(with_reducible first|exact HB.out|apply below_alloc|apply pw_below_drewN|apply below_drew1)|exact HB.out))))
                 have n5_:=Aside0.mk (below_step (by repeat (first|(with_reducible first|exact HB.out|apply below_alloc|apply pw_below_drewN|apply below_drew1)|exact HB.out)) hb)
                 clear HO_4
                 clear HO_5
                 clear HO_8
                 clear HO_18
                 clear HB
                 have HO_4:=n0_
                 have HO_5:=n1_
                 have HO_8:=n2_
                 have HO_18:=n3_
                 have HO282:=n4_
                 have HB:=n5_
                 clear n0_ n1_ n2_ n3_ n4_ n5_
                 (try clear hb)
                 (try clear hb2)
                 (try clear hk)
                 (try clear hi)
                 (try clear ho0)
                 refine hK.out _ _ ⟨((HB.out.cell (World.block_lt_of_cell? w _ hw278_0)).trans hw278_0),((HB.out.cell (World.block_lt_of_cell? w _ hw278_1)).trans hw278_1),((HB.out.cell (World.block_lt_of_cell? w _ hw278_2)).trans hw278_2),((HB.out.cell (World.block_lt_of_cell? w _ hw278_3)).trans hw278_3),((HB.out.cell (World.block_lt_of_cell? w _ hw279_0)).trans hw279_0),((HB.out.cell (World.block_lt_of_cell? w _ hw279_1)).trans hw279_1),((HB.out.cell (World.block_lt_of_cell? w _ hw279_2)).trans hw279_2),((HB.out.cell (World.block_lt_of_cell? w _ hw279_3)).trans hw279_3),((HB.out.cell (World.block_lt_of_cell? w _ hw283_0)).trans hw283_0),((HB.out.cell (World.block_lt_of_cell? w _ hw283_1)).trans hw283_1),((HB.out.cell (World.block_lt_of_cell? w _ hw283_2)).trans hw283_2),((HB.out.cell (World.block_lt_of_cell? w _ hw283_3)).trans hw283_3)⟩ (fun hHeld=>?_)
                 clear hK K
                 refine norm_ (a':=?_) ?_ ?_
                 rotate_left
                 ·show Act.put _ (some 59) _ = _
                  simp only [Act.put,List.setIfInBounds_toArray,List.set_cons_zero,List.set_cons_succ,i64_w,i32_w]
                  rfl
                 refine one_ (i:=18) (N:=some 65) #[true,true,true,true,true,true,true,true,true,true,true,true,true,true,true,true,true,true,true,false,false,false,false] rfl rfl (one_of HT_.out (by kernel_rfl)) (by decide) (fun K hK=>?_)
                 refine goes_ Try.func107 (by kernel_rfl) rfl #[.slice A278_3 ((rd_T83 l0 (rd t264 x20_1)).f3).length c278_3] (by rfl) rfl rfl (by (try simp only [List.map_toArray,List.map_cons,List.map_nil]);first|done|rfl|(simp only [List.length_drop,List.length_take];rfl)) ?_
                 with_reducible refine (spec_l4Own.calls k2 _ _ ((rd_T83 l0 (rd t264 x20_1)).f3) t284 _ ?side1 ?side2 A30.out).mono ?_
                 (case side1=>repeat (first|exact (Kd.C_below HR283_3.out HB.out)|(with_reducible refine Kd.C_alloc ?_ _)|(with_reducible refine Kd.C_drewN ?_ _)|(with_reducible refine Kd.C_drew ?_)))
                 (case side2=>exact HC283_3.out)
                 rintro e w34 ⟨v285,rfl,ho0,hb⟩
                 refine ⟨_,rfl,?_⟩
                 have n0_:=Aside0.mk (Kd.R_below (by (with_reducible repeat (first|apply Kd.R_alloc|apply Kd.R_drewN|apply Kd.R_drew));exact HO_4.out) hb)
                 have n1_:=Aside0.mk (Kd.R_elder' (by (with_reducible repeat (first|apply Kd.R_alloc|apply Kd.R_drewN|apply Kd.R_drew));exact HO_5.out) (Kd.S_base ho0) hb)
                 have n2_:=Aside0.mk (Kd.R_below (by (with_reducible repeat (first|apply Kd.R_alloc|apply Kd.R_drewN|apply Kd.R_drew));exact HO_8.out) hb)
                 have n3_:=Aside0.mk (Kd.R_below (by (with_reducible repeat (first|apply Kd.R_alloc|apply Kd.R_drewN|apply Kd.R_drew));exact HO_18.out) hb)
                 have n4_:=Aside0.mk (Kd.R_below (by (with_reducible repeat (first|apply Kd.R_alloc|apply Kd.R_drewN|apply Kd.R_drew));exact HO282.out) hb)
                 have n5_:=Aside0.mk (Kd.S_lower (Kd.S_new' (Kd.S_new' (Kd.S_new' (Kd.S_new' ho0 (Kd.R_lt (by (with_reducible repeat (first|apply Kd.R_alloc|apply Kd.R_drewN|apply Kd.R_drew));exact HO_4.out))) (Kd.R_lt (by (with_reducible repeat (first|apply Kd.R_alloc|apply Kd.R_drewN|apply Kd.R_drew));exact HO_8.out))) (Kd.R_lt (by (with_reducible repeat (first|apply Kd.R_alloc|apply Kd.R_drewN|apply Kd.R_drew));exact HO_18.out))) (Kd.R_lt (by (with_reducible repeat (first|apply Kd.R_alloc|apply Kd.R_drewN|apply Kd.R_drew));exact HO282.out))) (below_size (by repeat (first|(with_reducible first|exact HB.out|apply below_alloc|apply pw_below_drewN|apply below_drew1)|exact HB.out))))
                 have n6_:=Aside0.mk (below_step (by repeat (first|(with_reducible first|exact HB.out|apply below_alloc|apply pw_below_drewN|apply below_drew1)|exact HB.out)) hb)
                 clear HO_4
                 clear HO_5
                 clear HO_8
                 clear HO_18
                 clear HO282
                 clear HB
                 have HO_4:=n0_
                 have HO_5:=n1_
                 have HO_8:=n2_
                 have HO_18:=n3_
                 have HO282:=n4_
                 have HO286:=n5_
                 have HB:=n6_
                 clear n0_ n1_ n2_ n3_ n4_ n5_ n6_
                 (try clear hb)
                 (try clear hb2)
                 (try clear hk)
                 (try clear hi)
                 (try clear ho0)
                 obtain ⟨Ao35,co35,eo35⟩:=Kd.S_slice HO286.out
                 (first|subst eo35|(injection eo35 with f1_ f2_ f3_;have f4_:=f1_.symm;have f5_:=f3_.symm;clear f1_ f2_ f3_;subst f4_;subst f5_))
                 obtain ⟨Ao36,co36,eo36⟩:=Kd.R_slice HO282.out
                 (first|subst eo36|(injection eo36 with f1_ f2_ f3_;have f4_:=f1_.symm;have f5_:=f3_.symm;clear f1_ f2_ f3_;subst f4_;subst f5_))
                 obtain ⟨Ao37,co37,eo37⟩:=Kd.R_slice HO_8.out
                 (first|subst eo37|(injection eo37 with f1_ f2_ f3_;have f4_:=f1_.symm;have f5_:=f3_.symm;clear f1_ f2_ f3_;subst f4_;subst f5_))
                 refine hK.out _ _ ⟨((HB.out.cell (World.block_lt_of_cell? w _ hw278_0)).trans hw278_0),((HB.out.cell (World.block_lt_of_cell? w _ hw278_1)).trans hw278_1),((HB.out.cell (World.block_lt_of_cell? w _ hw278_2)).trans hw278_2),((HB.out.cell (World.block_lt_of_cell? w _ hw278_3)).trans hw278_3),((HB.out.cell (World.block_lt_of_cell? w _ hw279_0)).trans hw279_0),((HB.out.cell (World.block_lt_of_cell? w _ hw279_1)).trans hw279_1),((HB.out.cell (World.block_lt_of_cell? w _ hw279_2)).trans hw279_2),((HB.out.cell (World.block_lt_of_cell? w _ hw279_3)).trans hw279_3),((HB.out.cell (World.block_lt_of_cell? w _ hw283_0)).trans hw283_0),((HB.out.cell (World.block_lt_of_cell? w _ hw283_1)).trans hw283_1),((HB.out.cell (World.block_lt_of_cell? w _ hw283_2)).trans hw283_2),((HB.out.cell (World.block_lt_of_cell? w _ hw283_3)).trans hw283_3)⟩ (fun hHeld=>?_)
                 clear hK K
                 refine norm_ (a':=?_) ?_ ?_
                 rotate_left
                 ·show Act.put _ (some 65) _ = _
                  simp only [Act.put,List.setIfInBounds_toArray,List.set_cons_zero,List.set_cons_succ,i64_w,i32_w]
                  rfl
                 refine pure_ (i:=19) (N:=some 66) (v:=?_) (a':=?_) #[true,true,true,true,true,true,true,true,true,true,true,true,true,true,true,true,true,true,true,true,false,false,false] rfl rfl (any_of HT_.out (by kernel_rfl)) (fun _ _ _ h=>h) (Or.inl ⟨by rfl,?_⟩) ?_ ?_
                 rotate_left
                 ·intro w'
                  go_simp
                  with_reducible rfl
                 rotate_left
                 ·simp only [Act.put,List.setIfInBounds_toArray,List.set_cons_zero,List.set_cons_succ,i64_w,i32_w]
                  rfl
                 refine one_ (i:=20) (N:=some 67) #[true,true,true,true,true,true,true,true,true,true,true,true,true,true,true,true,true,true,true,true,true,false,false] rfl rfl (one_of HT_.out (by kernel_rfl)) (by decide) (fun K hK=>?_)
                 refine value_ (w1:=?_) (v:=?_) (by rfl) rfl ?_ ?_
                 rotate_left 2
                 ·go_simp
                  constructor
                  ·rfl
                  ·rfl
                 refine hK.out _ _ ⟨(World.cell?_alloc_lt _ _ _ (World.block_lt_of_cell? _ _ (((HB.out.cell (World.block_lt_of_cell? w _ hw278_0)).trans hw278_0)))).trans (((HB.out.cell (World.block_lt_of_cell? w _ hw278_0)).trans hw278_0)),(World.cell?_alloc_lt _ _ _ (World.block_lt_of_cell? _ _ (((HB.out.cell (World.block_lt_of_cell? w _ hw278_1)).trans hw278_1)))).trans (((HB.out.cell (World.block_lt_of_cell? w _ hw278_1)).trans hw278_1)),(World.cell?_alloc_lt _ _ _ (World.block_lt_of_cell? _ _ (((HB.out.cell (World.block_lt_of_cell? w _ hw278_2)).trans hw278_2)))).trans (((HB.out.cell (World.block_lt_of_cell? w _ hw278_2)).trans hw278_2)),(World.cell?_alloc_lt _ _ _ (World.block_lt_of_cell? _ _ (((HB.out.cell (World.block_lt_of_cell? w _ hw278_3)).trans hw278_3)))).trans (((HB.out.cell (World.block_lt_of_cell? w _ hw278_3)).trans hw278_3)),(World.cell?_alloc_lt _ _ _ (World.block_lt_of_cell? _ _ (((HB.out.cell (World.block_lt_of_cell? w _ hw279_0)).trans hw279_0)))).trans (((HB.out.cell (World.block_lt_of_cell? w _ hw279_0)).trans hw279_0)),(World.cell?_alloc_lt _ _ _ (World.block_lt_of_cell? _ _ (((HB.out.cell (World.block_lt_of_cell? w _ hw279_1)).trans hw279_1)))).trans (((HB.out.cell (World.block_lt_of_cell? w _ hw279_1)).trans hw279_1)),(World.cell?_alloc_lt _ _ _ (World.block_lt_of_cell? _ _ (((HB.out.cell (World.block_lt_of_cell? w _ hw279_2)).trans hw279_2)))).trans (((HB.out.cell (World.block_lt_of_cell? w _ hw279_2)).trans hw279_2)),(World.cell?_alloc_lt _ _ _ (World.block_lt_of_cell? _ _ (((HB.out.cell (World.block_lt_of_cell? w _ hw279_3)).trans hw279_3)))).trans (((HB.out.cell (World.block_lt_of_cell? w _ hw279_3)).trans hw279_3)),(World.cell?_alloc_lt _ _ _ (World.block_lt_of_cell? _ _ (((HB.out.cell (World.block_lt_of_cell? w _ hw283_0)).trans hw283_0)))).trans (((HB.out.cell (World.block_lt_of_cell? w _ hw283_0)).trans hw283_0)),(World.cell?_alloc_lt _ _ _ (World.block_lt_of_cell? _ _ (((HB.out.cell (World.block_lt_of_cell? w _ hw283_1)).trans hw283_1)))).trans (((HB.out.cell (World.block_lt_of_cell? w _ hw283_1)).trans hw283_1)),(World.cell?_alloc_lt _ _ _ (World.block_lt_of_cell? _ _ (((HB.out.cell (World.block_lt_of_cell? w _ hw283_2)).trans hw283_2)))).trans (((HB.out.cell (World.block_lt_of_cell? w _ hw283_2)).trans hw283_2)),(World.cell?_alloc_lt _ _ _ (World.block_lt_of_cell? _ _ (((HB.out.cell (World.block_lt_of_cell? w _ hw283_3)).trans hw283_3)))).trans (((HB.out.cell (World.block_lt_of_cell? w _ hw283_3)).trans hw283_3))⟩ (fun hHeld=>?_)
                 clear hK K
                 refine norm_ (a':=?_) ?_ ?_
                 rotate_left
                 ·show Act.put _ (some 67) _ = _
                  simp only [Act.put,List.setIfInBounds_toArray,List.set_cons_zero,List.set_cons_succ,i64_w,i32_w]
                  rfl
                 refine one_ (i:=21) (N:=some 68) #[true,true,true,true,true,true,true,true,true,true,true,true,true,true,true,true,true,true,true,true,true,true,false] rfl rfl (one_of HT_.out (by kernel_rfl)) (by decide) (fun K hK=>?_)
                 refine Kd.R_append_step k83 (w0:=w) w.heap.size (by rfl) (.tmp 47) (.tmp 67) 41 83 (.agg #[(.int .i64 0),(.slice none 0 0),(.slice none 0 0),(.slice none 0 0)]) 80 rfl Try.underlying41 info83 rfl (by decide) (by first|decide|omega) u5 x5_1 (⟨(rd_T83 l0 (rd t264 x20_1)).f0,x8_2,t280,t284⟩:S83) [.int .i64 ((rd_T83 l0 (rd t264 x20_1)).f0),.slice Ao37 x8_2.length co37,.slice Ao36 t280.length co36,.slice Ao35 t284.length co35] (fun k_=>some k_ ≠ (.slice (some ⟨go16,0,none⟩) y271.length co16:Value).ownBlock ∧ some k_ ≠ (.slice (some ad270) t264.length co10:Value).ownBlock) (fun k_=>((fun k_=>some k_ ≠ (.slice (some ⟨go16,0,none⟩) y271.length co16:Value).ownBlock ∧ some k_ ≠ (.slice (some ad270) t264.length co10:Value).ownBlock)) k_ ∧ some k_ ≠ (u5:Value).ownBlock) rfl rfl ?aP (fun _ hk=>hk) ?aF ?aO ?aB ?aS ?aL ?_
                 (case aP=>exact k83_mkM _ _ _ (⟨(rd_T83 l0 (rd t264 x20_1)).f0,x8_2,t280,t284⟩:S83) (Kd.R_mono (Kd.R_apart' (HO_8.out) (Kd.R_typed HO_5.out) (by decide)) (fun k_ hk=>⟨⟨hk.1.1.1,hk.1.1.2⟩,hk.2⟩)) (Kd.R_mono (Kd.R_apart' (HO282.out) (Kd.R_typed HO_5.out) (by decide)) (fun k_ hk=>⟨⟨hk.1.1.1.2,hk.1.2⟩,hk.2⟩)) (Kd.R_mono (Kd.R_apart' ((Kd.S_R HO286.out)) (Kd.R_typed HO_5.out) (by decide)) (fun k_ hk=>⟨⟨hk.1.1.1.1.2,hk.1.1.2⟩,hk.2⟩)))
                 (case aB=>exact (by repeat (first|(with_reducible first|exact HB.out|apply below_alloc|apply pw_below_drewN|apply below_drew1)|exact HB.out)))
                 (case aF=>exact (fun k_ hk=>⟨Kd.fresh' (Kd.R_lt (by (with_reducible repeat (first|apply Kd.R_alloc|apply Kd.R_drewN|apply Kd.R_drew));exact HO_4.out)) k_ hk,Kd.fresh' (Kd.R_lt (by (with_reducible repeat (first|apply Kd.R_alloc|apply Kd.R_drewN|apply Kd.R_drew));exact HO_18.out)) k_ hk⟩))
                 (case aO=>exact (by (with_reducible repeat (first|apply Kd.R_alloc|apply Kd.R_drewN|apply Kd.R_drew));exact Kd.R_mono HO_5.out (fun _ hk=>⟨hk.1.1.1,hk.1.1.2.2⟩)))
                 (case aS=>exact (below_size (by repeat (first|(with_reducible first|exact HB.out|apply below_alloc|apply pw_below_drewN|apply below_drew1)|exact HB.out))))
                 (case aL=>have:=LMc31.out;omega)
                 intro v288 w38 ho hb hg hat
                 rw [← Ny287.out] at ho
                 have n0_:=Aside0.mk (Kd.R_over' (by (with_reducible repeat (first|apply Kd.R_alloc|apply Kd.R_drewN|apply Kd.R_drew));exact HO_4.out) (Kd.R_typed (by (with_reducible repeat (first|apply Kd.R_alloc|apply Kd.R_drewN|apply Kd.R_drew));exact HO_5.out)) (by decide) hg)
                 have n1_:=Aside0.mk (Kd.R_over' (by (with_reducible repeat (first|apply Kd.R_alloc|apply Kd.R_drewN|apply Kd.R_drew));exact HO_18.out) (Kd.R_typed (by (with_reducible repeat (first|apply Kd.R_alloc|apply Kd.R_drewN|apply Kd.R_drew));exact HO_5.out)) (by decide) hg)
                 have n2_:=Aside0.mk (hb)
                 have n3_:=Aside0.mk (ho)
                 clear HO_4
                 clear HO_18
                 clear HB
                 clear HO_5
                 clear HO282
                 clear HO286
                 clear HO_8
                 have HO_4:=n0_
                 have HO_18:=n1_
                 have HB:=n2_
                 have HO289:=n3_
                 clear n0_ n1_ n2_ n3_
                 clear ho hb hg hat
                 refine hK.out _ _ ⟨((HB.out.cell (World.block_lt_of_cell? w _ hw278_0)).trans hw278_0),((HB.out.cell (World.block_lt_of_cell? w _ hw278_1)).trans hw278_1),((HB.out.cell (World.block_lt_of_cell? w _ hw278_2)).trans hw278_2),((HB.out.cell (World.block_lt_of_cell? w _ hw278_3)).trans hw278_3),((HB.out.cell (World.block_lt_of_cell? w _ hw279_0)).trans hw279_0),((HB.out.cell (World.block_lt_of_cell? w _ hw279_1)).trans hw279_1),((HB.out.cell (World.block_lt_of_cell? w _ hw279_2)).trans hw279_2),((HB.out.cell (World.block_lt_of_cell? w _ hw279_3)).trans hw279_3),((HB.out.cell (World.block_lt_of_cell? w _ hw283_0)).trans hw283_0),((HB.out.cell (World.block_lt_of_cell? w _ hw283_1)).trans hw283_1),((HB.out.cell (World.block_lt_of_cell? w _ hw283_2)).trans hw283_2),((HB.out.cell (World.block_lt_of_cell? w _ hw283_3)).trans hw283_3)⟩ (fun hHeld=>?_)
                 clear hK K
                 refine norm_ (a':=?_) ?_ ?_
                 rotate_left
                 ·show Act.put _ (some 68) _ = _
                  simp only [Act.put,List.setIfInBounds_toArray,List.set_cons_zero,List.set_cons_succ,i64_w,i32_w]
                  rfl
                 refine pure_ (i:=22) (N:=some 5) (v:=?_) (a':=?_) #[true,true,true,true,true,true,true,true,true,true,true,true,true,true,true,true,true,true,true,true,true,true,true] rfl rfl (any_of HT_.out (by kernel_rfl)) (fun _ _ _ h=>h) (Or.inl ⟨by rfl,?_⟩) ?_ ?_
                 rotate_left
                 ·intro w'
                  go_simp
                  with_reducible rfl
                 rotate_left
                 ·simp only [Act.put,List.setIfInBounds_toArray,List.set_cons_zero,List.set_cons_succ,i64_w,i32_w]
                  rfl
                 refine done_ (done_of HT_.out (by kernel_rfl)) ?_
                 try go_wp2
                 (try simp only [← hl4_2])
                 go_roundg k2
                 case measure=>have:=HK1.out;have:=HK2.out;omega
                 case rel=>exact ⟨(y271),(y287),(wrap64 (x20_1 + 1)),(by first|rfl|(simp;done)|(simp [*];done)),H',⟨by have:=HK1.out;have:=HK2.out;omega⟩,⟨by (try simp only [hl4_2]);(with_reducible repeat (first|apply Kd.R_alloc|apply Kd.R_drewN|apply Kd.R_drew));exact Kd.R_mono HO_4.out (fun _ hk=>hk.1.2)⟩,⟨by (try simp only [hl4_2]);(with_reducible repeat (first|apply Kd.R_alloc|apply Kd.R_drewN|apply Kd.R_drew));exact HO289.out⟩,⟨by (try simp only [hl4_2]);(with_reducible repeat (first|apply Kd.R_alloc|apply Kd.R_drewN|apply Kd.R_drew));exact Kd.R_mono HO_18.out (fun _ hk=>hk.1.1)⟩,⟨by repeat (first|(with_reducible first|exact HB.out|apply below_alloc|apply pw_below_drewN|apply below_drew1)|exact HB.out)⟩⟩
                ·rw [if_neg c31] at H
                 exact absurd H (by simp)
               ·rw [if_neg c28] at H
                exact absurd H (by simp)
              ·rw [if_neg c27] at H
               exact absurd H (by simp)
          ·rw [if_neg c17] at H
           exact absurd H (by simp)
         ·rw [if_neg c15] at H
          exact absurd H (by simp)
        ·rw [if_neg c14] at H
         exact absurd H (by simp)
       ·rw [if_neg c13] at H
        exact absurd H (by simp)
      ·rw [if_neg c12] at H
       exact absurd H (by simp)
     ·rw [if_neg c11] at H
      have c11b0:decide (x20_1 < (t264.length:Int)) = false:=decide_eq_false c11
      clear c11
      obtain rfl:=Option.some.inj H
      go_wp2
      go_ret
      exact ⟨_,by first|rfl|(simp [errW_none,errW_some] <;> rfl)|(simp [*,errW_none,errW_some] <;> rfl),by (with_reducible repeat (first|apply Kd.R_alloc|apply Kd.R_drewN|apply Kd.R_drew));exact Kd.R_mono HO_5.out (fun _ hk=>trivial),by repeat (first|(with_reducible first|exact HB.out|apply below_alloc|apply pw_below_drewN|apply below_drew1)|exact HB.out)⟩
  ·rw [if_neg c5] at H
   exact absurd H (by simp)
 ·rw [if_neg c4] at H
  exact absurd H (by simp)

/-! ### spec_TrimSteps: function 41 -/
def spec_TrimSteps.f (k:Nat) (l0_0:List Int) (l1:List (S83)):Option ((List (S83)) × Bool):=(spec_l9Steps.f k l0_0 l1).bind fun t291=>(if t291 = true then ((spec_l9Empty.f k l1).bind fun t292=>(if t292 < 0 then (some (([]:List (S83)),false)) else ((spec_l9Trim.f k l1).bind fun t293=>(some (t293,true))))) else (some (([]:List (S83)),false)))
theorem spec_TrimSteps.mono:∀ a0 a1 k,LeO (spec_TrimSteps.f k a0 a1) (spec_TrimSteps.f (k + 1) a0 a1):=by
 intro a0 a1 k
 unfold spec_TrimSteps.f
 repeat' first
   | (with_reducible exact spec_l9Empty.mono _ _)
   | (with_reducible exact spec_l9Steps.mono _ _ _)
   | (with_reducible exact spec_l9Trim.mono _ _)
   | (with_reducible exact LeO.refl _)
   | (with_reducible exact LeO.none _)
   | (with_reducible refine LeO.ite ?_ ?_)
   | (with_reducible refine LeO.bind ?_ (fun _=>?_))
   | exact spec_l9Empty.mono _ _
   | exact spec_l9Steps.mono _ _ _
   | exact spec_l9Trim.mono _ _
   | exact LeO.none _
   | refine LeO.ite ?_ ?_
   | refine LeO.bind ?_ (fun _=>?_)
set_option maxHeartbeats 8000000 in
set_option maxRecDepth 100000 in
theorem spec_TrimSteps.calls (k:Nat) (A0_0:Option Addr) (c0_0:Nat) (l0_0:List Int) (A1:Option Addr) (c1:Nat) (l1:List (S83)) (r1:List (S83)) (r2:Bool) (w:World) (hr0_0:Kd.C (Kd.int .i64) w A0_0 l0_0.length l0_0) (hc0_0:l0_0.length ≤ c0_0) (hr1:Kd.C k83 w A1 l1.length l1) (hc1:l1.length ≤ c1) (h:spec_TrimSteps.f k l0_0 l1 = some (r1,r2)) :
  Calls Try.prog 41 #[.agg #[.slice A0_0 l0_0.length c0_0],.slice A1 l1.length c1] w fun e w'=>∃ v0_:Value,e = .returned (.tuple #[v0_,.bool r2]) ∧ Kd.R k83 83 w' w.heap.size (fun _=>True) v0_ r1 ∧ Below w.heap.size w w':=by
 have hu30:=Try.underlying30
 have HR0_0:=Aside0.mk hr0_0
 have HC0_0:=Aside0.mk hc0_0
 clear hr0_0 hc0_0
 have HR1:=Aside0.mk hr1
 have HC1:=Aside0.mk hc1
 clear hr1 hc1
 have HB:=Aside0.mk (Below.refl w.heap.size w)
 have H:((spec_l9Steps.f k l0_0 l1).bind fun t291=>(if t291 = true then ((spec_l9Empty.f k l1).bind fun t292=>(if t292 < 0 then (some (([]:List (S83)),false)) else ((spec_l9Trim.f k l1).bind fun t293=>(some (t293,true))))) else (some (([]:List (S83)),false)))) = some (r1,r2):=h
 clear h
 replace H:=Option.bind_eq_some_iff.mp H
 obtain ⟨t291,A30,H⟩:=H
 replace H:(if t291 = true then ((spec_l9Empty.f k l1).bind fun t292=>(if t292 < 0 then (some (([]:List (S83)),false)) else ((spec_l9Trim.f k l1).bind fun t293=>(some (t293,true))))) else (some (([]:List (S83)),false))) = some (r1,r2):=H
 have A3:=Aside0.mk A30
 clear A30
 by_cases c4:t291 = true
 ·subst c4
  have H1:((spec_l9Empty.f k l1).bind fun t292=>(if t292 < 0 then (some (([]:List (S83)),false)) else ((spec_l9Trim.f k l1).bind fun t293=>(some (t293,true))))) = some (r1,r2):=by rw [if_pos rfl] at H;exact H
  clear H
  have H:=H1
  clear H1
  replace H:=Option.bind_eq_some_iff.mp H
  obtain ⟨t292,A50,H⟩:=H
  replace H:(if t292 < 0 then (some (([]:List (S83)),false)) else ((spec_l9Trim.f k l1).bind fun t293=>(some (t293,true)))) = some (r1,r2):=H
  have A5:=Aside0.mk A50
  clear A50
  by_cases c6:t292 < 0
  ·rw [if_pos c6] at H
   have c6b0:decide (t292 < 0) = true:=decide_eq_true c6
   clear c6
   simp only [Option.some.injEq,Prod.mk.injEq] at H
   obtain ⟨rfl,rfl⟩:=H
   go_enter Try.func41,Try.ntmps41
   go_wp2_with (first|((with_reducible refine gate_dst (N:=2) rfl ?_);refine box_event ?hg (N:=2) ?hd (cs:=#[.slice A0_0 l0_0.length c0_0]) (t:=30) ?hr ?_;(case hd=>rfl);(case hg=>rfl);(case hr=>first|(go_simp;done)|(go_simp;rfl));intro gb290 hg w7 hbox hb;have n0_:=Aside0.mk (below_step (by repeat (first|(with_reducible first|exact HB.out|apply below_alloc|apply pw_below_drewN|apply below_drew1)|exact HB.out)) hb);have n1_:=Aside0.mk (hbox);have n2_:=Aside0.mk ((by rw [hg];exact (below_size (by repeat (first|(with_reducible first|exact HB.out|apply below_alloc|apply pw_below_drewN|apply below_drew1)|exact HB.out))):w.heap.size ≤ gb290));have n3_:=Aside0.mk ((by rw [hg];exact (below_size (by repeat (first|(with_reducible first|exact HB.out|apply below_alloc|apply pw_below_drewN|apply below_drew1)|exact HB.out))):w.heap.size ≤ gb290));clear HB;have HB:=n0_;have BK290:=n1_;have GW290:=n2_;have GE290:=n3_;clear n0_ n1_ n2_ n3_;clear hb hbox hg;have hcz8_0:w7.cell? ⟨gb290,0,none⟩ = some (.slice A0_0 l0_0.length c0_0):=(blk_cell BK290.out 0).trans rfl;have hfz8_0:=blk_frozen BK290.out 0)|((with_reducible refine gate_callee (f:=64) rfl ?_);refine goesL_ (some 8) rfl rfl Try.func64 (by kernel_rfl) rfl #[.agg #[.slice A0_0 l0_0.length c0_0],.slice A1 l1.length c1] rfl (by (try simp only [List.map_toArray,List.map_cons,List.map_nil]);first|done|rfl|(simp only [List.length_drop,List.length_take];rfl)) ?_;(with_reducible refine (spec_l9Steps.calls k _ _ l0_0 _ _ l1 true _ ?side1 ?side2 ?side3 ?side4 A3.out).mono ?_);(case side1=>repeat (first|exact (Kd.C_below HR0_0.out HB.out)|(with_reducible refine Kd.C_alloc ?_ _)|(with_reducible refine Kd.C_drewN ?_ _)|(with_reducible refine Kd.C_drew ?_)));(case side2=>exact HC0_0.out);(case side3=>repeat (first|exact (Kd.C_below HR1.out HB.out)|(with_reducible refine Kd.C_alloc ?_ _)|(with_reducible refine Kd.C_drewN ?_ _)|(with_reducible refine Kd.C_drew ?_)));(case side4=>exact HC1.out);rintro e w9 ⟨rfl,hb⟩;refine ⟨_,rfl,?_⟩;have n0_:=Aside0.mk (blk_below (g:=gb290) (o:=.cells #[.slice A0_0 l0_0.length c0_0] 30 (0,0)) (by (with_reducible repeat (first|refine blk_drewN ?_ _|refine blk_drew ?_|refine blk_alloc ?_ _));exact BK290.out) hb);have n1_:=Aside0.mk (below_step (by repeat (first|(with_reducible first|exact HB.out|apply below_alloc|apply pw_below_drewN|apply below_drew1|refine below_set ?_ GE290.out)|exact HB.out)) hb);clear BK290;clear HB;have BK290:=n0_;have HB:=n1_;clear n0_ n1_;(try clear hb);(try clear hb2);(try clear hk);(try clear hi))|(go_at_call 75;(with_reducible refine (spec_l9Empty.calls k _ _ l1 t292 _ ?side1 ?side2 A5.out).mono ?_);(case side1=>repeat (first|exact (Kd.C_below HR1.out HB.out)|(with_reducible refine Kd.C_alloc ?_ _)|(with_reducible refine Kd.C_drewN ?_ _)|(with_reducible refine Kd.C_drew ?_)));(case side2=>exact HC1.out);rintro e w10 ⟨rfl,hb⟩;have n0_:=Aside0.mk (blk_below (g:=gb290) (o:=.cells #[.slice A0_0 l0_0.length c0_0] 30 (0,0)) (by (with_reducible repeat (first|refine blk_drewN ?_ _|refine blk_drew ?_|refine blk_alloc ?_ _));exact BK290.out) hb);have n1_:=Aside0.mk (below_step (by repeat (first|(with_reducible first|exact HB.out|apply below_alloc|apply pw_below_drewN|apply below_drew1|refine below_set ?_ GE290.out)|exact HB.out)) hb);clear BK290;clear HB;have BK290:=n0_;have HB:=n1_;clear n0_ n1_;(try clear hb);(try clear hb2);(try clear hk);(try clear hi)))
   go_ret2
   exact ⟨_,by first|rfl|(simp [errW_none,errW_some] <;> rfl)|(simp [*,errW_none,errW_some] <;> rfl),by first|exact Kd.R_nil _ _ _ _ _|exact Kd.N_nil _ _ _ _ _|exact Kd.V_nil _ _ _ _ _|exact Kd.Q_nil _ _ _ _ _|exact Kd.S_nil _ _ _ _ _,by repeat (first|(with_reducible first|exact HB.out|apply below_alloc|apply pw_below_drewN|apply below_drew1|refine below_set ?_ GE290.out)|exact HB.out)⟩
  ·rw [if_neg c6] at H
   have c6b0:decide (t292 < 0) = false:=decide_eq_false c6
   clear c6
   replace H:=Option.bind_eq_some_iff.mp H
   obtain ⟨t293,A110,H⟩:=H
   replace H:(some (t293,true)) = some (r1,r2):=H
   have A11:=Aside0.mk A110
   clear A110
   simp only [Option.some.injEq,Prod.mk.injEq] at H
   obtain ⟨rfl,rfl⟩:=H
   go_enter Try.func41,Try.ntmps41
   go_wp2_with (first|((with_reducible refine gate_dst (N:=2) rfl ?_);refine box_event ?hg (N:=2) ?hd (cs:=#[.slice A0_0 l0_0.length c0_0]) (t:=30) ?hr ?_;(case hd=>rfl);(case hg=>rfl);(case hr=>first|(go_simp;done)|(go_simp;rfl));intro gb290 hg w12 hbox hb;have n0_:=Aside0.mk (below_step (by repeat (first|(with_reducible first|exact HB.out|apply below_alloc|apply pw_below_drewN|apply below_drew1)|exact HB.out)) hb);have n1_:=Aside0.mk (hbox);have n2_:=Aside0.mk ((by rw [hg];exact (below_size (by repeat (first|(with_reducible first|exact HB.out|apply below_alloc|apply pw_below_drewN|apply below_drew1)|exact HB.out))):w.heap.size ≤ gb290));have n3_:=Aside0.mk ((by rw [hg];exact (below_size (by repeat (first|(with_reducible first|exact HB.out|apply below_alloc|apply pw_below_drewN|apply below_drew1)|exact HB.out))):w.heap.size ≤ gb290));clear HB;have HB:=n0_;have BK290:=n1_;have GW290:=n2_;have GE290:=n3_;clear n0_ n1_ n2_ n3_;clear hb hbox hg;have hcz13_0:w12.cell? ⟨gb290,0,none⟩ = some (.slice A0_0 l0_0.length c0_0):=(blk_cell BK290.out 0).trans rfl;have hfz13_0:=blk_frozen BK290.out 0)|((with_reducible refine gate_callee (f:=64) rfl ?_);refine goesL_ (some 8) rfl rfl Try.func64 (by kernel_rfl) rfl #[.agg #[.slice A0_0 l0_0.length c0_0],.slice A1 l1.length c1] rfl (by (try simp only [List.map_toArray,List.map_cons,List.map_nil]);first|done|rfl|(simp only [List.length_drop,List.length_take];rfl)) ?_;(with_reducible refine (spec_l9Steps.calls k _ _ l0_0 _ _ l1 true _ ?side1 ?side2 ?side3 ?side4 A3.out).mono ?_);(case side1=>repeat (first|exact (Kd.C_below HR0_0.out HB.out)|(with_reducible refine Kd.C_alloc ?_ _)|(with_reducible refine Kd.C_drewN ?_ _)|(with_reducible refine Kd.C_drew ?_)));(case side2=>exact HC0_0.out);(case side3=>repeat (first|exact (Kd.C_below HR1.out HB.out)|(with_reducible refine Kd.C_alloc ?_ _)|(with_reducible refine Kd.C_drewN ?_ _)|(with_reducible refine Kd.C_drew ?_)));(case side4=>exact HC1.out);rintro e w14 ⟨rfl,hb⟩;refine ⟨_,rfl,?_⟩;have n0_:=Aside0.mk (blk_below (g:=gb290) (o:=.cells #[.slice A0_0 l0_0.length c0_0] 30 (0,0)) (by (with_reducible repeat (first|refine blk_drewN ?_ _|refine blk_drew ?_|refine blk_alloc ?_ _));exact BK290.out) hb);have n1_:=Aside0.mk (below_step (by repeat (first|(with_reducible first|exact HB.out|apply below_alloc|apply pw_below_drewN|apply below_drew1|refine below_set ?_ GE290.out)|exact HB.out)) hb);clear BK290;clear HB;have BK290:=n0_;have HB:=n1_;clear n0_ n1_;(try clear hb);(try clear hb2);(try clear hk);(try clear hi))|(go_at_call 75;(with_reducible refine (spec_l9Empty.calls k _ _ l1 t292 _ ?side1 ?side2 A5.out).mono ?_);(case side1=>repeat (first|exact (Kd.C_below HR1.out HB.out)|(with_reducible refine Kd.C_alloc ?_ _)|(with_reducible refine Kd.C_drewN ?_ _)|(with_reducible refine Kd.C_drew ?_)));(case side2=>exact HC1.out);rintro e w15 ⟨rfl,hb⟩;have n0_:=Aside0.mk (blk_below (g:=gb290) (o:=.cells #[.slice A0_0 l0_0.length c0_0] 30 (0,0)) (by (with_reducible repeat (first|refine blk_drewN ?_ _|refine blk_drew ?_|refine blk_alloc ?_ _));exact BK290.out) hb);have n1_:=Aside0.mk (below_step (by repeat (first|(with_reducible first|exact HB.out|apply below_alloc|apply pw_below_drewN|apply below_drew1|refine below_set ?_ GE290.out)|exact HB.out)) hb);clear BK290;clear HB;have BK290:=n0_;have HB:=n1_;clear n0_ n1_;(try clear hb);(try clear hb2);(try clear hk);(try clear hi))|((with_reducible refine gate_callee (f:=76) rfl ?_);refine goesL_ (some 16) rfl rfl Try.func76 (by kernel_rfl) rfl #[.slice A1 l1.length c1] rfl (by (try simp only [List.map_toArray,List.map_cons,List.map_nil]);first|done|rfl|(simp only [List.length_drop,List.length_take];rfl)) ?_;(with_reducible refine (spec_l9Trim.calls k _ _ l1 t293 _ ?side1 ?side2 A11.out).mono ?_);(case side1=>repeat (first|exact (Kd.C_below HR1.out HB.out)|(with_reducible refine Kd.C_alloc ?_ _)|(with_reducible refine Kd.C_drewN ?_ _)|(with_reducible refine Kd.C_drew ?_)));(case side2=>exact HC1.out);rintro e w16 ⟨v294,rfl,ho0,hb⟩;refine ⟨_,rfl,?_⟩;have n0_:=Aside0.mk (Kd.R_lower ho0 (below_size (by repeat (first|(with_reducible first|exact HB.out|apply below_alloc|apply pw_below_drewN|apply below_drew1|refine below_set ?_ GE290.out)|exact HB.out))));have n1_:=Aside0.mk (blk_below (g:=gb290) (o:=.cells #[.slice A0_0 l0_0.length c0_0] 30 (0,0)) (by (with_reducible repeat (first|refine blk_drewN ?_ _|refine blk_drew ?_|refine blk_alloc ?_ _));exact BK290.out) hb);have n2_:=Aside0.mk (below_step (by repeat (first|(with_reducible first|exact HB.out|apply below_alloc|apply pw_below_drewN|apply below_drew1|refine below_set ?_ GE290.out)|exact HB.out)) hb);clear BK290;clear HB;have HO295:=n0_;have BK290:=n1_;have HB:=n2_;clear n0_ n1_ n2_;(try clear hb);(try clear hb2);(try clear hk);(try clear hi);(try clear ho0)))
   go_ret2
   exact ⟨_,by first|rfl|(simp [errW_none,errW_some] <;> rfl)|(simp [*,errW_none,errW_some] <;> rfl),by (with_reducible repeat (first|apply Kd.R_alloc|apply Kd.R_drewN|apply Kd.R_drew));exact HO295.out,by repeat (first|(with_reducible first|exact HB.out|apply below_alloc|apply pw_below_drewN|apply below_drew1|refine below_set ?_ GE290.out)|exact HB.out)⟩
 ·replace c4:=Bool.eq_false_iff.mpr c4
  subst c4
  have H1:(some (([]:List (S83)),false)) = some (r1,r2):=by rw [if_neg (show ¬ (false = true) by decide)] at H;exact H
  clear H
  have H:=H1
  clear H1
  simp only [Option.some.injEq,Prod.mk.injEq] at H
  obtain ⟨rfl,rfl⟩:=H
  go_enter Try.func41,Try.ntmps41
  go_wp2_with (first|((with_reducible refine gate_dst (N:=2) rfl ?_);refine box_event ?hg (N:=2) ?hd (cs:=#[.slice A0_0 l0_0.length c0_0]) (t:=30) ?hr ?_;(case hd=>rfl);(case hg=>rfl);(case hr=>first|(go_simp;done)|(go_simp;rfl));intro gb290 hg w17 hbox hb;have n0_:=Aside0.mk (below_step (by repeat (first|(with_reducible first|exact HB.out|apply below_alloc|apply pw_below_drewN|apply below_drew1)|exact HB.out)) hb);have n1_:=Aside0.mk (hbox);have n2_:=Aside0.mk ((by rw [hg];exact (below_size (by repeat (first|(with_reducible first|exact HB.out|apply below_alloc|apply pw_below_drewN|apply below_drew1)|exact HB.out))):w.heap.size ≤ gb290));have n3_:=Aside0.mk ((by rw [hg];exact (below_size (by repeat (first|(with_reducible first|exact HB.out|apply below_alloc|apply pw_below_drewN|apply below_drew1)|exact HB.out))):w.heap.size ≤ gb290));clear HB;have HB:=n0_;have BK290:=n1_;have GW290:=n2_;have GE290:=n3_;clear n0_ n1_ n2_ n3_;clear hb hbox hg;have hcz18_0:w17.cell? ⟨gb290,0,none⟩ = some (.slice A0_0 l0_0.length c0_0):=(blk_cell BK290.out 0).trans rfl;have hfz18_0:=blk_frozen BK290.out 0)|((with_reducible refine gate_callee (f:=64) rfl ?_);refine goesL_ (some 8) rfl rfl Try.func64 (by kernel_rfl) rfl #[.agg #[.slice A0_0 l0_0.length c0_0],.slice A1 l1.length c1] rfl (by (try simp only [List.map_toArray,List.map_cons,List.map_nil]);first|done|rfl|(simp only [List.length_drop,List.length_take];rfl)) ?_;(with_reducible refine (spec_l9Steps.calls k _ _ l0_0 _ _ l1 false _ ?side1 ?side2 ?side3 ?side4 A3.out).mono ?_);(case side1=>repeat (first|exact (Kd.C_below HR0_0.out HB.out)|(with_reducible refine Kd.C_alloc ?_ _)|(with_reducible refine Kd.C_drewN ?_ _)|(with_reducible refine Kd.C_drew ?_)));(case side2=>exact HC0_0.out);(case side3=>repeat (first|exact (Kd.C_below HR1.out HB.out)|(with_reducible refine Kd.C_alloc ?_ _)|(with_reducible refine Kd.C_drewN ?_ _)|(with_reducible refine Kd.C_drew ?_)));(case side4=>exact HC1.out);rintro e w19 ⟨rfl,hb⟩;refine ⟨_,rfl,?_⟩;have n0_:=Aside0.mk (blk_below (g:=gb290) (o:=.cells #[.slice A0_0 l0_0.length c0_0] 30 (0,0)) (by (with_reducible repeat (first|refine blk_drewN ?_ _|refine blk_drew ?_|refine blk_alloc ?_ _));exact BK290.out) hb);have n1_:=Aside0.mk (below_step (by repeat (first|(with_reducible first|exact HB.out|apply below_alloc|apply pw_below_drewN|apply below_drew1|refine below_set ?_ GE290.out)|exact HB.out)) hb);clear BK290;clear HB;have BK290:=n0_;have HB:=n1_;clear n0_ n1_;(try clear hb);(try clear hb2);(try clear hk);(try clear hi)))
  go_ret2
  exact ⟨_,by first|rfl|(simp [errW_none,errW_some] <;> rfl)|(simp [*,errW_none,errW_some] <;> rfl),by first|exact Kd.R_nil _ _ _ _ _|exact Kd.N_nil _ _ _ _ _|exact Kd.V_nil _ _ _ _ _|exact Kd.Q_nil _ _ _ _ _|exact Kd.S_nil _ _ _ _ _,by repeat (first|(with_reducible first|exact HB.out|apply below_alloc|apply pw_below_drewN|apply below_drew1|refine below_set ?_ GE290.out)|exact HB.out)⟩

end Go.Proofs.Ytlgnanbnicmdaaa.QFnExactTrimSteps
