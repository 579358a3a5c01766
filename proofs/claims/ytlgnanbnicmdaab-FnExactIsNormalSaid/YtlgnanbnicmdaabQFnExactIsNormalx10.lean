-- Written by this session's own program (wip/x/xprint.py, over the kit's printer); Lean checks it.
import Derived.Test.YtlgnanbnicmdaabQFnExactIsNormalx0
import Derived.Test.YtlgnanbnicmdaabQFnExactIsNormalx7
import Derived.Test.YtlgnanbnicmdaabQFnExactIsNormalx9
namespace Go.Proofs.Ytlgnanbnicmdaab.QFnExactIsNormal
open Go.RowKit Go.Proofs.YtlgnanbnicmdaabW.PrintWords Go.Proofs.YtlgnanbnicmdaabW.PrintLast Go.Proofs.YtlgnanbnicmdaabW.PrintMore
attribute [local go_sem] max2_int min2_int max_two min_two max_three min_three max_four min_four   -- for this text's walks alone
set_option linter.unusedVariables false
set_option linter.unusedSimpArgs false

/-! ### impl_Sign_replace: function 81 -/
def impl_Sign_replace.f (k:Nat) (l0_0:List Int) (l1:List Int) (a2:Int) (l3:List Int):Option (List Int):=if 0 ≤ a2 then (if a2 ≤ (l1.length:Int) then ((impl_Sign_end.f k l0_0 l1 a2).bind fun t348=>(if 0 ≤ t348 then (if t348 ≤ (l1.length:Int) then ((slices_Concat_int_int.f k (([(l1.take (a2:Int).toNat),l3,(l1.drop (t348:Int).toNat)]:List (List Int)))).bind fun t357=>(some t357)) else (none)) else (none))) else (none)) else (none)
theorem impl_Sign_replace.mono:∀ a0 a1 a2 a3 k,LeO (impl_Sign_replace.f k a0 a1 a2 a3) (impl_Sign_replace.f (k + 1) a0 a1 a2 a3):=by
 intro a0 a1 a2 a3 k
 unfold impl_Sign_replace.f
 repeat' first
   | (with_reducible exact impl_Sign_end.mono _ _ _ _)
   | (with_reducible exact slices_Concat_int_int.mono _ _)
   | (with_reducible exact LeO.refl _)
   | (with_reducible exact LeO.none _)
   | (with_reducible refine LeO.ite ?_ ?_)
   | (with_reducible refine LeO.bind ?_ (fun _=>?_))
   | exact impl_Sign_end.mono _ _ _ _
   | exact slices_Concat_int_int.mono _ _
   | exact LeO.none _
   | refine LeO.ite ?_ ?_
   | refine LeO.bind ?_ (fun _=>?_)
def impl_Sign_replace.T1:Bool × List (List Nat × List Nat):=(true,[([],[]),([],[]),([0,1],[0,1]),([],[]),([],[]),([],[]),([],[]),([],[]),([5,6,7],[5,6,7]),([4,8],[4,8]),([2,3,9],[2,3,9]),([10,8],[10]),([11,11,0,1,2,3,4,5,6,7,8,9,10,11],[11])])
def impl_Sign_replace.B1:List Nat:=[0,0,3,0,0,0,0,0,224,496,1023,2047,4095]
theorem impl_Sign_replace.tab1:rtab .any (opsOf Try.f81 1) = impl_Sign_replace.T1:=by kernel_rfl
theorem impl_Sign_replace.bits1:waitsOk impl_Sign_replace.T1.2 impl_Sign_replace.B1 = true:=by kernel_rfl
set_option maxHeartbeats 8000000 in
set_option maxRecDepth 100000 in
theorem impl_Sign_replace.calls (k:Nat) (A0_0:Option Addr) (c0_0:Nat) (l0_0:List Int) (P1_:Nat → Prop) (A1:Option Addr) (c1:Nat) (l1:List Int) (a2:Int) (P3_:Nat → Prop) (A3:Option Addr) (c3:Nat) (l3:List Int) (r:List Int) (w:World) (hr0_0:Kd.C (Kd.int .i64) w A0_0 l0_0.length l0_0) (hc0_0:l0_0.length ≤ c0_0) (hs1:Kd.V (Kd.int .i64) 3 w w.heap.size (fun k_=>P1_ k_) (.slice A1 l1.length c1) l1) (hs3:Kd.V (Kd.int .i64) 3 w w.heap.size (fun k_=>P3_ k_) (.slice A3 l3.length c3) l3) (h:impl_Sign_replace.f k l0_0 l1 a2 l3 = some r) :
  Calls Try.prog 81 #[.agg #[.slice A0_0 l0_0.length c0_0],.slice A1 l1.length c1,.int .i64 a2,.slice A3 l3.length c3] w fun e w'=>∃ v0_:Value,e = .returned (v0_) ∧ Kd.R (Kd.int .i64) 3 w' w.heap.size (fun k_=>(w.heap.size ≤ k_)) v0_ r ∧ Below w.heap.size w w':=by
 have hu30:=Try.underlying30
 have HR0_0:=Aside0.mk hr0_0
 have HC0_0:=Aside0.mk hc0_0
 clear hr0_0 hc0_0
 have HO1:=Aside0.mk (show Kd.V (Kd.int .i64) 3 w w.heap.size (fun k_=>((P1_ k_ ∨ P3_ k_) ∨ w.heap.size ≤ k_)) (.slice A1 l1.length c1) l1 from Kd.V_mono hs1 (fun k_ hk=>.inl (.inl hk)))
 have HO3:=Aside0.mk (show Kd.V (Kd.int .i64) 3 w w.heap.size (fun k_=>((P1_ k_ ∨ P3_ k_) ∨ w.heap.size ≤ k_)) (.slice A3 l3.length c3) l3 from Kd.V_mono hs3 (fun k_ hk=>.inl (.inr hk)))
 have HB:=Aside0.mk (Below.refl w.heap.size w)
 have H:(if 0 ≤ a2 then (if a2 ≤ (l1.length:Int) then ((impl_Sign_end.f k l0_0 l1 a2).bind fun t348=>(if 0 ≤ t348 then (if t348 ≤ (l1.length:Int) then ((slices_Concat_int_int.f k (([(l1.take (a2:Int).toNat),l3,(l1.drop (t348:Int).toNat)]:List (List Int)))).bind fun t357=>(some t357)) else (none)) else (none))) else (none)) else (none)) = some r:=h
 clear h
 by_cases c5:0 ≤ a2
 ·rw [if_pos c5] at H
  have c5b0:=eq_true c5
  have c5b1:decide (0 ≤ a2) = true:=decide_eq_true c5
  clear c5
  by_cases c6:a2 ≤ (l1.length:Int)
  ·rw [if_pos c6] at H
   have c6b0:=eq_true c6
   have c6b1:decide (a2 ≤ (l1.length:Int)) = true:=decide_eq_true c6
   clear c6
   obtain ⟨y343,hy343⟩:∃ y_:List Int,y_ = (l1.take (a2:Int).toNat):=⟨_,rfl⟩
   replace H:((impl_Sign_end.f k l0_0 l1 a2).bind fun t348=>(if 0 ≤ t348 then (if t348 ≤ (l1.length:Int) then ((slices_Concat_int_int.f k (([y343,l3,(l1.drop (t348:Int).toNat)]:List (List Int)))).bind fun t357=>(some t357)) else (none)) else (none))) = some r:=by first|(rw [hy343];with_reducible exact H)|(have H2_:=(Option.bind_some _ _).symm.trans H;rw [hy343];with_reducible exact H2_)|(have H2_:=(Option.bind_some _ _).symm.trans H;with_reducible exact H2_)|with_reducible exact H|(rw [hy343];exact H)|exact H
   have Ny343:=Aside0.mk hy343
   clear hy343
   replace H:=Option.bind_eq_some_iff.mp H
   obtain ⟨t348,A70,H⟩:=H
   replace H:(if 0 ≤ t348 then (if t348 ≤ (l1.length:Int) then ((slices_Concat_int_int.f k (([y343,l3,(l1.drop (t348:Int).toNat)]:List (List Int)))).bind fun t357=>(some t357)) else (none)) else (none)) = some r:=H
   have A7:=Aside0.mk A70
   clear A70
   by_cases c8:0 ≤ t348
   ·rw [if_pos c8] at H
    have c8b0:=eq_true c8
    have c8b1:decide (0 ≤ t348) = true:=decide_eq_true c8
    clear c8
    by_cases c9:t348 ≤ (l1.length:Int)
    ·rw [if_pos c9] at H
     have c9b0:=eq_true c9
     have c9b1:decide (t348 ≤ (l1.length:Int)) = true:=decide_eq_true c9
     clear c9
     obtain ⟨y349,hy349⟩:∃ y_:List Int,y_ = (l1.drop (t348:Int).toNat):=⟨_,rfl⟩
     replace H:((slices_Concat_int_int.f k (([y343,l3,y349]:List (List Int)))).bind fun t357=>(some t357)) = some r:=by first|(rw [hy349];with_reducible exact H)|(have H2_:=(Option.bind_some _ _).symm.trans H;rw [hy349];with_reducible exact H2_)|(have H2_:=(Option.bind_some _ _).symm.trans H;with_reducible exact H2_)|with_reducible exact H|(rw [hy349];exact H)|exact H
     have Ny349:=Aside0.mk hy349
     clear hy349
     obtain ⟨y354,hy354⟩:∃ y_:List (List Int),y_ = (([y343,l3,y349]:List (List Int))):=⟨_,rfl⟩
     replace H:((slices_Concat_int_int.f k y354).bind fun t357=>(some t357)) = some r:=by first|(rw [hy354];with_reducible exact H)|(have H2_:=(Option.bind_some _ _).symm.trans H;rw [hy354];with_reducible exact H2_)|(have H2_:=(Option.bind_some _ _).symm.trans H;with_reducible exact H2_)|with_reducible exact H|(rw [hy354];exact H)|exact H
     have Ny354:=Aside0.mk hy354
     clear hy354
     replace H:=Option.bind_eq_some_iff.mp H
     obtain ⟨t357,A100,H⟩:=H
     replace H:(some t357) = some r:=H
     have A10:=Aside0.mk A100
     clear A100
     obtain rfl:=Option.some.inj H
     go_enter Try.func81,Try.ntmps81
     try go_wp2_with (first|((with_reducible refine gate_dst (N:=4) rfl ?_);refine box_event ?hg (N:=4) ?hd (cs:=#[.slice A0_0 l0_0.length c0_0]) (t:=30) ?hr ?_;(case hd=>rfl);(case hg=>rfl);(case hr=>first|(go_simp;done)|(go_simp;rfl));intro gb342 hg w11 hbox hb;have n0_:=Aside0.mk (Kd.V_below (Kd.V_elderB (by (with_reducible repeat (first|apply Kd.V_alloc|apply Kd.V_drewN|apply Kd.V_drew));exact HO1.out) gb342 (Nat.le_of_eq hg.symm)) hb);have n1_:=Aside0.mk (Kd.V_below (Kd.V_elderB (by (with_reducible repeat (first|apply Kd.V_alloc|apply Kd.V_drewN|apply Kd.V_drew));exact HO3.out) gb342 (Nat.le_of_eq hg.symm)) hb);have n2_:=Aside0.mk (below_step (by repeat (first|(with_reducible first|exact HB.out|apply below_alloc|apply pw_below_drewN|apply below_drew1)|exact HB.out)) hb);have n3_:=Aside0.mk (hbox);have n4_:=Aside0.mk ((by rw [hg];exact (below_size (by repeat (first|(with_reducible first|exact HB.out|apply below_alloc|apply pw_below_drewN|apply below_drew1)|exact HB.out))):w.heap.size ≤ gb342));have n5_:=Aside0.mk ((by rw [hg];exact (below_size (by repeat (first|(with_reducible first|exact HB.out|apply below_alloc|apply pw_below_drewN|apply below_drew1)|exact HB.out))):w.heap.size ≤ gb342));clear HO1;clear HO3;clear HB;have HO1:=n0_;have HO3:=n1_;have HB:=n2_;have BK342:=n3_;have GW342:=n4_;have GE342:=n5_;clear n0_ n1_ n2_ n3_ n4_ n5_;clear hb hbox hg))
     have n0_:=Aside0.mk (Kd.V_drew HO1.out)
     have n1_:=Aside0.mk (Kd.V_drew HO3.out)
     have n2_:=Aside0.mk (blk_drew BK342.out)
     have n3_:=Aside0.mk (below_drew1 HB.out)
     clear HO1
     clear HO3
     clear BK342
     clear HB
     have HO1:=n0_
     have HO3:=n1_
     have BK342:=n2_
     have HB:=n3_
     clear n0_ n1_ n2_ n3_
     have q13:(a2:Int) ≤ ((l1.length:Int):Int):=of_decide_eq_true (by first|(with_reducible assumption)|assumption)
     obtain ⟨i013,hi013,_,hsz13,_⟩:=info_parts info3
     have hroom13:l1.length ≤ c1:=(Kd.V_reads' HO1.out).2.1
     have hC13:Kd.F (Kd.int .i64) _ _ A1 l1.length l1:=(Kd.V_at (base:=w.heap.size) HO1.out).2.2
     have hcut13:=cut_to (P:=Try.prog) 22 3 .i64 Try.underlying22 hi013 A1 l1.length c1 a2 (of_decide_eq_true (by first|(with_reducible assumption)|assumption)) q13 hroom13
     have hr13:=Kd.F_take (m:=(a2:Int).toNat) hC13 (by omega)
     have hy13:y343.length = (a2:Int).toNat:=(by rw [Ny343.out,List.length_take];omega)
     rw [← Ny343.out] at hr13
     rw [← hy13] at hcut13
     have HO347:=Aside0.mk (show Kd.V (Kd.int .i64) 3 _ w.heap.size _ (.slice A1 y343.length c1) y343 from Kd.V_mk (by omega) hr13)
     have HC347:=Aside0.mk (show y343.length ≤ c1 from by omega)
     clear hr13 hC13 hroom13 hi013 hsz13
     have KY13:=Aside0.mk hy13
     clear hy13
     replace q13:=eq_true q13
     refine start_ (n:=13) (S:=fun w'=>w'.cell? ⟨gb342,0,none⟩ = some (.slice A0_0 l0_0.length c0_0)) (ds:=[]) #[false,false,false,false,false,false,false,false,false,false,false,false,false] (by kernel_rfl) rfl rfl ((blk_cell BK342.out 0).trans rfl) (fun hHeld=>?_);refine with_tabW impl_Sign_replace.tab1 impl_Sign_replace.bits1 (fun HT_ HW_=>?_)
     generalize w11.drew = w12 at HO1 HO3 BK342 HB HO347 hHeld ⊢
     refine pure_ (i:=0) (N:=some 9) (v:=?_) (a':=?_) #[true,false,false,false,false,false,false,false,false,false,false,false,false] rfl rfl (any_of HT_.out (by kernel_rfl)) (fun _ _ _ h=>h) (Or.inl ⟨by rfl,?_⟩) ?_ ?_
     rotate_left
     ·intro w'
      go_simp
      with_reducible rfl
     rotate_left
     ·simp only [Act.put,List.setIfInBounds_toArray,List.set_cons_zero,List.set_cons_succ,i64_w,i32_w]
      rfl
     refine pure_ (i:=1) (N:=some 10) (v:=?_) (a':=?_) #[true,true,false,false,false,false,false,false,false,false,false,false,false] rfl rfl (any_of HT_.out (by kernel_rfl)) (fun _ _ _ h=>h) (Or.inl ⟨by rfl,?_⟩) ?_ ?_
     rotate_left
     ·intro w'
      go_simp
      with_reducible rfl
     rotate_left
     ·simp only [Act.put,List.setIfInBounds_toArray,List.set_cons_zero,List.set_cons_succ,i64_w,i32_w]
      rfl
     refine pure_ (i:=2) (N:=some 11) (v:=?_) (a':=?_) #[true,true,true,false,false,false,false,false,false,false,false,false,false] rfl rfl (any_of HT_.out (by kernel_rfl)) (fun _ _ _ h=>h) (Or.inl ⟨by rfl,?_⟩) ?_ ?_
     rotate_left
     ·intro w'
      go_simp
      with_reducible rfl
     rotate_left
     ·simp only [Act.put,List.setIfInBounds_toArray,List.set_cons_zero,List.set_cons_succ,i64_w,i32_w]
      rfl
     refine pure_ (i:=3) (N:=some 12) (v:=?_) (a':=?_) #[true,true,true,true,false,false,false,false,false,false,false,false,false] rfl rfl (any_of HT_.out (by kernel_rfl)) (fun _ _ _ h=>h) (Or.inl ⟨by rfl,?_⟩) ?_ ?_
     rotate_left
     ·intro w'
      go_simp
      with_reducible rfl
     rotate_left
     ·simp only [Act.put,List.setIfInBounds_toArray,List.set_cons_zero,List.set_cons_succ,i64_w,i32_w]
      rfl
     refine pure_ (i:=4) (N:=some 13) (v:=?_) (a':=?_) #[true,true,true,true,true,false,false,false,false,false,false,false,false] rfl rfl (any_of HT_.out (by kernel_rfl)) (fun _ _ _ h=>h) (Or.inl ⟨by rfl,?_⟩) ?_ ?_
     rotate_left
     ·intro w'
      go_simp
      with_reducible rfl
     rotate_left
     ·simp only [Act.put,List.setIfInBounds_toArray,List.set_cons_zero,List.set_cons_succ,i64_w,i32_w]
      rfl
     refine pure_ (i:=6) (N:=some 15) (v:=?_) (a':=?_) #[true,true,true,true,true,false,true,false,false,false,false,false,false] rfl rfl (any_of HT_.out (by kernel_rfl)) (fun _ _ _ h=>h) (Or.inl ⟨by rfl,?_⟩) ?_ ?_
     rotate_left
     ·intro w'
      go_simp
      with_reducible rfl
     rotate_left
     ·simp only [Act.put,List.setIfInBounds_toArray,List.set_cons_zero,List.set_cons_succ,i64_w,i32_w]
      rfl
     refine pure_ (i:=7) (N:=some 16) (v:=?_) (a':=?_) #[true,true,true,true,true,false,true,true,false,false,false,false,false] rfl rfl (any_of HT_.out (by kernel_rfl)) (fun _ _ _ h=>h) (Or.inl ⟨by rfl,?_⟩) ?_ ?_
     rotate_left
     ·intro w'
      go_simp
      with_reducible rfl
     rotate_left
     ·simp only [Act.put,List.setIfInBounds_toArray,List.set_cons_zero,List.set_cons_succ,i64_w,i32_w]
      rfl
     refine take_ (i:=5) (N:=some 14) (v:=?_) (a':=?_) #[true,true,true,true,true,true,true,true,false,false,false,false,false] rfl rfl (take_ofW HT_.out HW_.out (by kernel_rfl)) (fun _ _ _ h=>h) (Or.inl ⟨by rfl,?_⟩) hHeld ?_ ?_
     rotate_left
     ·intro w' s0
      go_simp
      with_reducible rfl
     rotate_left
     ·simp only [Act.put,List.setIfInBounds_toArray,List.set_cons_zero,List.set_cons_succ,i64_w,i32_w]
      rfl
     refine one_ (i:=8) (N:=some 17) #[true,true,true,true,true,true,true,true,true,false,false,false,false] rfl rfl (one_of HT_.out (by kernel_rfl)) (by decide) (fun K hK=>?_)
     refine goes_ Try.func110 (by kernel_rfl) rfl #[.agg #[.slice A0_0 l0_0.length c0_0],.slice A1 l1.length c1,.int .i64 a2] (by rfl) rfl rfl (by (try simp only [List.map_toArray,List.map_cons,List.map_nil]);first|done|rfl|(simp only [List.length_drop,List.length_take];rfl)) ?_
     with_reducible refine (impl_Sign_end.calls k _ _ l0_0 _ _ l1 a2 t348 _ ?side1 ?side2 ?side3 ?side4 A7.out).mono ?_
     (case side1=>repeat (first|exact (Kd.C_below HR0_0.out HB.out)|(with_reducible refine Kd.C_alloc ?_ _)|(with_reducible refine Kd.C_drewN ?_ _)|(with_reducible refine Kd.C_drew ?_)))
     (case side2=>exact HC0_0.out)
     (case side3=>repeat (first|exact (Kd.V_reads' HO1.out).2.2|(with_reducible refine Kd.C_alloc ?_ _)|(with_reducible refine Kd.C_drewN ?_ _)|(with_reducible refine Kd.C_drew ?_)))
     (case side4=>exact (Kd.V_reads' HO1.out).2.1)
     rintro e w14 ⟨rfl,hb⟩
     refine ⟨_,rfl,?_⟩
     have n0_:=Aside0.mk (Kd.V_below (by (with_reducible repeat (first|apply Kd.V_alloc|apply Kd.V_drewN|apply Kd.V_drew));exact HO1.out) hb)
     have n1_:=Aside0.mk (Kd.V_below (by (with_reducible repeat (first|apply Kd.V_alloc|apply Kd.V_drewN|apply Kd.V_drew));exact HO3.out) hb)
     have n2_:=Aside0.mk (Kd.V_below (by (with_reducible repeat (first|apply Kd.V_alloc|apply Kd.V_drewN|apply Kd.V_drew));exact HO347.out) hb)
     have n3_:=Aside0.mk (blk_below (g:=gb342) (o:=.cells #[.slice A0_0 l0_0.length c0_0] 30 (0,0)) (by (with_reducible repeat (first|refine blk_drewN ?_ _|refine blk_drew ?_|refine blk_alloc ?_ _));exact BK342.out) hb)
     have n4_:=Aside0.mk (below_step (by repeat (first|(with_reducible first|exact HB.out|apply below_alloc|apply pw_below_drewN|apply below_drew1|refine below_set ?_ GE342.out)|exact HB.out)) hb)
     clear HO1
     clear HO3
     clear HO347
     clear BK342
     clear HB
     have HO1:=n0_
     have HO3:=n1_
     have HO347:=n2_
     have BK342:=n3_
     have HB:=n4_
     clear n0_ n1_ n2_ n3_ n4_
     (try clear hb)
     (try clear hb2)
     (try clear hk)
     (try clear hi)
     have q15:(t348:Int) ≤ ((l1.length:Int):Int):=of_decide_eq_true (by first|(with_reducible assumption)|assumption)
     obtain ⟨i015,hi015,_,hsz15,_⟩:=info_parts info3
     have hroom15:l1.length ≤ c1:=(Kd.V_reads' HO1.out).2.1
     have hC15:Kd.F (Kd.int .i64) _ _ A1 l1.length l1:=(Kd.V_at (base:=w.heap.size) HO1.out).2.2
     have q015:(0:Int) ≤ (t348:Int):=of_decide_eq_true (by first|(with_reducible assumption)|assumption)
     have hcut15:=cut_from (P:=Try.prog) 22 3 .i64 Try.underlying22 hi015 1 hsz15 A1 l1.length c1 t348 q015 q15
     have hr15:=Kd.F_cut (m:=(t348:Int).toNat) (c:=c1) hC15 (by omega) hroom15
     obtain ⟨A15,hA15⟩:∃ A1_,A1_ = (if c1 = (t348:Int).toNat then A1 else (A1:Option Addr).map (·.add ((t348:Int).toNat * 1))):=⟨_,rfl⟩
     obtain ⟨c15,hc15⟩:∃ c1_,c1_ = c1 - (t348:Int).toNat:=⟨_,rfl⟩
     have hy15:y349.length = l1.length - (t348:Int).toNat:=(by rw [Ny349.out,List.length_drop] <;> omega)
     rw [show (l1).drop (t348:Int).toNat = y349 from Ny349.out.symm] at hr15
     replace hr15:Kd.F (Kd.int .i64) _ _ A15 y349.length y349:=(by rw [hA15];exact hr15)
     rw [← hy15,← hA15,← hc15] at hcut15
     have HO353:=Aside0.mk (show Kd.V (Kd.int .i64) 3 _ w.heap.size _ (.slice A15 y349.length c15) y349 from Kd.V_mk (by rw [hy15,hc15];exact Nat.sub_le_sub_right hroom15 _) hr15)
     have HC353:=Aside0.mk (show y349.length ≤ c15 from by rw [hy15,hc15];exact Nat.sub_le_sub_right hroom15 _)
     clear hr15 hC15 hroom15 hi015 hsz15 hc15
     have KY15:=Aside0.mk hy15
     have KA15:=Aside0.mk hA15
     clear hy15 hA15
     replace q15:=eq_true q15
     refine hK.out _ _ ((blk_cell BK342.out 0).trans rfl) (fun hHeld=>?_)
     clear hK K
     refine norm_ (a':=?_) ?_ ?_
     rotate_left
     ·show Act.put _ (some 17) _ = _
      simp only [Act.put,List.setIfInBounds_toArray,List.set_cons_zero,List.set_cons_succ,i64_w,i32_w]
      rfl
     refine pure_ (i:=9) (N:=some 18) (v:=?_) (a':=?_) #[true,true,true,true,true,true,true,true,true,true,false,false,false] rfl rfl (any_of HT_.out (by kernel_rfl)) (fun _ _ _ h=>h) (Or.inl ⟨by rfl,?_⟩) ?_ ?_
     rotate_left
     ·intro w'
      go_simp
      with_reducible rfl
     rotate_left
     ·simp only [Act.put,List.setIfInBounds_toArray,List.set_cons_zero,List.set_cons_succ,i64_w,i32_w]
      rfl
     refine one_ (i:=10) (N:=some 19) #[true,true,true,true,true,true,true,true,true,true,true,false,false] rfl rfl (one_of HT_.out (by kernel_rfl)) (by decide) (fun K hK=>?_)
     refine Kd.N_lit_step (Kd.slice 3 (Kd.int .i64)) _ 22 ?hg (N':=19) ?hd (xs:=([y343,l3,y349]:List (List Int))) (inner:=[.slice A1 y343.length c1,.slice A3 l3.length c3,.slice A15 y349.length c15]) (ok:=(fun k_=>((P1_ k_ ∨ P3_ k_) ∨ w.heap.size ≤ k_) ∧ k_ ≠ gb342)) (okp:=(fun k_=>((P1_ k_ ∨ P3_ k_) ∨ w.heap.size ≤ k_) ∧ k_ ≠ gb342)) ?hr ?hp (fun _ hk=>hk) ((show ∀ k_,w14.heap.size ≤ k_ → (fun k_=>((P1_ k_ ∨ P3_ k_) ∨ w.heap.size ≤ k_) ∧ k_ ≠ gb342) k_ from fun k_ hk=>⟨(.inr (Nat.le_trans (below_size (by repeat (first|(with_reducible first|exact HB.out|apply below_alloc|apply pw_below_drewN|apply below_drew1|refine below_set ?_ GE342.out)|exact HB.out))) hk)),Kd.freshB (g:=gb342) (o:=.cells #[.slice A0_0 l0_0.length c0_0] 30 (0,0)) (by (with_reducible repeat (first|refine blk_drewN ?_ _|refine blk_drew ?_|refine blk_alloc ?_ _));exact BK342.out) k_ hk⟩) _ (Nat.le_refl _)) (Below.refl _ _) (Nat.le_refl _) (by simp) ?_;(case hd=>rfl);(case hg=>rfl);(case hr=>first|(go_simp;done)|(go_simp;rfl));(case hp=>exact (Reps.one (show Kd.FK (Kd.slice 3 (Kd.int .i64)) _ _ y343 [.slice A1 y343.length c1] from (Kd.FK_slice_mk (Kd.V_reads' (Kd.V_mono (ok':=(fun k_=>((P1_ k_ ∨ P3_ k_) ∨ w.heap.size ≤ k_) ∧ k_ ≠ gb342)) (HO347.out) (fun k_ hk=>⟨hk.1,hk.2⟩))).2.1 (Kd.V_F (Kd.V_mono (ok':=(fun k_=>((P1_ k_ ∨ P3_ k_) ∨ w.heap.size ≤ k_) ∧ k_ ≠ gb342)) (HO347.out) (fun k_ hk=>⟨hk.1,hk.2⟩))))) (Reps.one (show Kd.FK (Kd.slice 3 (Kd.int .i64)) _ _ l3 [.slice A3 l3.length c3] from (Kd.FK_slice_mk (Kd.V_reads' (Kd.V_mono (ok':=(fun k_=>((P1_ k_ ∨ P3_ k_) ∨ w.heap.size ≤ k_) ∧ k_ ≠ gb342)) (HO3.out) (fun k_ hk=>⟨hk.1,hk.2⟩))).2.1 (Kd.V_F (Kd.V_mono (ok':=(fun k_=>((P1_ k_ ∨ P3_ k_) ∨ w.heap.size ≤ k_) ∧ k_ ≠ gb342)) (HO3.out) (fun k_ hk=>⟨hk.1,hk.2⟩))))) (Reps.one (show Kd.FK (Kd.slice 3 (Kd.int .i64)) _ _ y349 [.slice A15 y349.length c15] from (Kd.FK_slice_mk (Kd.V_reads' (Kd.V_mono (ok':=(fun k_=>((P1_ k_ ∨ P3_ k_) ∨ w.heap.size ≤ k_) ∧ k_ ≠ gb342)) (HO353.out) (fun k_ hk=>⟨hk.1,hk.2⟩))).2.1 (Kd.V_F (Kd.V_mono (ok':=(fun k_=>((P1_ k_ ∨ P3_ k_) ∨ w.heap.size ≤ k_) ∧ k_ ≠ gb342)) (HO353.out) (fun k_ hk=>⟨hk.1,hk.2⟩))))) (Reps.none _ _)))))
     intro v355 w16 ho17 hb hg_ hnew_
     clear hg_ hnew_
     (first|rw [← Ny354.out] at ho17|(simp only [Int.reduceToNat] at ho17;rw [← Ny354.out] at ho17))
     have n0_:=Aside0.mk (Kd.V_elder' (by (with_reducible repeat (first|apply Kd.V_alloc|apply Kd.V_drewN|apply Kd.V_drew));exact HO1.out) (Kd.N_base ho17) hb)
     have n1_:=Aside0.mk (Kd.V_elder' (by (with_reducible repeat (first|apply Kd.V_alloc|apply Kd.V_drewN|apply Kd.V_drew));exact HO3.out) (Kd.N_base ho17) hb)
     have n2_:=Aside0.mk (Kd.V_elder' (by (with_reducible repeat (first|apply Kd.V_alloc|apply Kd.V_drewN|apply Kd.V_drew));exact HO347.out) (Kd.N_base ho17) hb)
     have n3_:=Aside0.mk (Kd.V_elder' (by (with_reducible repeat (first|apply Kd.V_alloc|apply Kd.V_drewN|apply Kd.V_drew));exact HO353.out) (Kd.N_base ho17) hb)
     have n4_:=Aside0.mk (Kd.N_lower ho17 (below_size (by repeat (first|(with_reducible first|exact HB.out|apply below_alloc|apply pw_below_drewN|apply below_drew1|refine below_set ?_ GE342.out)|exact HB.out))))
     have n5_:=Aside0.mk (blk_below (g:=gb342) (o:=.cells #[.slice A0_0 l0_0.length c0_0] 30 (0,0)) (by (with_reducible repeat (first|refine blk_drewN ?_ _|refine blk_drew ?_|refine blk_alloc ?_ _));exact BK342.out) hb)
     have n6_:=Aside0.mk (below_step (by repeat (first|(with_reducible first|exact HB.out|apply below_alloc|apply pw_below_drewN|apply below_drew1|refine below_set ?_ GE342.out)|exact HB.out)) hb)
     clear HO1
     clear HO3
     clear HO347
     clear HO353
     clear BK342
     clear HB
     have HO1:=n0_
     have HO3:=n1_
     have HO347:=n2_
     have HO353:=n3_
     have HO356:=n4_
     have BK342:=n5_
     have HB:=n6_
     clear n0_ n1_ n2_ n3_ n4_ n5_ n6_
     clear hb ho17
     obtain ⟨Ao18,co18,eo18⟩:=Kd.N_slice HO356.out
     (first|subst eo18|(injection eo18 with f1_ f2_ f3_;have f4_:=f1_.symm;have f5_:=f3_.symm;clear f1_ f2_ f3_;subst f4_;subst f5_))
     refine hK.out _ _ ((blk_cell BK342.out 0).trans rfl) (fun hHeld=>?_)
     clear hK K
     refine norm_ (a':=?_) ?_ ?_
     rotate_left
     ·show Act.put _ (some 19) _ = _
      simp only [Act.put,List.setIfInBounds_toArray,List.set_cons_zero,List.set_cons_succ,i64_w,i32_w]
      rfl
     refine one_ (i:=11) (N:=some 20) #[true,true,true,true,true,true,true,true,true,true,true,true,false] rfl rfl (one_of HT_.out (by kernel_rfl)) (by decide) (fun K hK=>?_)
     refine goes_ Try.func116 (by kernel_rfl) rfl #[.slice Ao18 y354.length co18] (by rfl) rfl rfl (by (try simp only [List.map_toArray,List.map_cons,List.map_nil]);first|done|rfl|(simp only [List.length_drop,List.length_take];rfl)) ?_
     with_reducible refine (slices_Concat_int_int.calls k _ _ y354 t357 _ ?side1 ?side2 A10.out).mono ?_
     (case side1=>repeat (first|exact (Kd.N_reads' HO356.out).2.2|(with_reducible refine Kd.C_alloc ?_ _)|(with_reducible refine Kd.C_drewN ?_ _)|(with_reducible refine Kd.C_drew ?_)))
     (case side2=>exact (Kd.N_reads' HO356.out).2.1)
     rintro e w19 ⟨v358,rfl,ho0,hb⟩
     refine ⟨_,rfl,?_⟩
     have n0_:=Aside0.mk (Kd.V_elder' (by (with_reducible repeat (first|apply Kd.V_alloc|apply Kd.V_drewN|apply Kd.V_drew));exact HO1.out) (Kd.R_base ho0) hb)
     have n1_:=Aside0.mk (Kd.V_elder' (by (with_reducible repeat (first|apply Kd.V_alloc|apply Kd.V_drewN|apply Kd.V_drew));exact HO3.out) (Kd.R_base ho0) hb)
     have n2_:=Aside0.mk (Kd.V_elder' (by (with_reducible repeat (first|apply Kd.V_alloc|apply Kd.V_drewN|apply Kd.V_drew));exact HO347.out) (Kd.R_base ho0) hb)
     have n3_:=Aside0.mk (Kd.V_elder' (by (with_reducible repeat (first|apply Kd.V_alloc|apply Kd.V_drewN|apply Kd.V_drew));exact HO353.out) (Kd.R_base ho0) hb)
     have n4_:=Aside0.mk (Kd.N_elder' (by (with_reducible repeat (first|apply Kd.N_alloc|apply Kd.N_drewN|apply Kd.N_drew));exact HO356.out) (Kd.R_base ho0) hb)
     have n5_:=Aside0.mk (Kd.R_lower (Kd.R_newM (M:=fun k_=>(w.heap.size ≤ k_)) ho0 (below_size (by repeat (first|(with_reducible first|exact HB.out|apply below_alloc|apply pw_below_drewN|apply below_drew1|refine below_set ?_ GE342.out)|exact HB.out))) (fun k_ h_=>h_)) (below_size (by repeat (first|(with_reducible first|exact HB.out|apply below_alloc|apply pw_below_drewN|apply below_drew1|refine below_set ?_ GE342.out)|exact HB.out))))
     have n6_:=Aside0.mk (blk_below (g:=gb342) (o:=.cells #[.slice A0_0 l0_0.length c0_0] 30 (0,0)) (by (with_reducible repeat (first|refine blk_drewN ?_ _|refine blk_drew ?_|refine blk_alloc ?_ _));exact BK342.out) hb)
     have n7_:=Aside0.mk (below_step (by repeat (first|(with_reducible first|exact HB.out|apply below_alloc|apply pw_below_drewN|apply below_drew1|refine below_set ?_ GE342.out)|exact HB.out)) hb)
     clear HO1
     clear HO3
     clear HO347
     clear HO353
     clear HO356
     clear BK342
     clear HB
     have HO1:=n0_
     have HO3:=n1_
     have HO347:=n2_
     have HO353:=n3_
     have HO356:=n4_
     have HO359:=n5_
     have BK342:=n6_
     have HB:=n7_
     clear n0_ n1_ n2_ n3_ n4_ n5_ n6_ n7_
     (try clear hb)
     (try clear hb2)
     (try clear hk)
     (try clear hi)
     (try clear ho0)
     refine hK.out _ _ ((blk_cell BK342.out 0).trans rfl) (fun hHeld=>?_)
     clear hK K
     refine norm_ (a':=?_) ?_ ?_
     rotate_left
     ·show Act.put _ (some 20) _ = _
      simp only [Act.put,List.setIfInBounds_toArray,List.set_cons_zero,List.set_cons_succ,i64_w,i32_w]
      rfl
     refine pure_ (i:=12) (N:=some 8) (v:=?_) (a':=?_) #[true,true,true,true,true,true,true,true,true,true,true,true,true] rfl rfl (any_of HT_.out (by kernel_rfl)) (fun _ _ _ h=>h) (Or.inl ⟨by rfl,?_⟩) ?_ ?_
     rotate_left
     ·intro w'
      go_simp
      with_reducible rfl
     rotate_left
     ·simp only [Act.put,List.setIfInBounds_toArray,List.set_cons_zero,List.set_cons_succ,i64_w,i32_w]
      rfl
     refine done_ (done_of HT_.out (by kernel_rfl)) ?_
     try go_wp2
     go_ret
     exact ⟨_,by first|rfl|(simp [errW_none,errW_some] <;> rfl)|(simp [*,errW_none,errW_some] <;> rfl),by (with_reducible repeat (first|apply Kd.R_alloc|apply Kd.R_drewN|apply Kd.R_drew));exact Kd.R_mono HO359.out (fun _ hk=>hk.1),by repeat (first|(with_reducible first|exact HB.out|apply below_alloc|apply pw_below_drewN|apply below_drew1|refine below_set ?_ GE342.out)|exact HB.out)⟩
    ·rw [if_neg c9] at H
     exact absurd H (by simp)
   ·rw [if_neg c8] at H
    exact absurd H (by simp)
  ·rw [if_neg c6] at H
   exact absurd H (by simp)
 ·rw [if_neg c5] at H
  exact absurd H (by simp)

end Go.Proofs.Ytlgnanbnicmdaab.QFnExactIsNormal
