-- Written by this session's own program (wip/x/xprint.py, over the kit's printer); Lean checks it.
import Derived.Test.YtlgnanbnicmdaabQFnExactNormalClausex0
import Derived.Test.YtlgnanbnicmdaabQFnExactNormalClausex9
import Derived.Test.YtlgnanbnicmdaabQFnExactNormalClausex10
namespace Go.Proofs.Ytlgnanbnicmdaab.QFnExactNormalClause
open Go.RowKit Go.Proofs.YtlgnanbnicmdaabW.PrintWords Go.Proofs.YtlgnanbnicmdaabW.PrintLast Go.Proofs.YtlgnanbnicmdaabW.PrintMore
attribute [local go_sem] max2_int min2_int max_two min_two max_three min_three max_four min_four   -- for this text's walks alone
set_option linter.unusedVariables false
set_option linter.unusedSimpArgs false

/-! ### impl_Sign_end: function 110 -/
def impl_Sign_end.l0:Nat → List Int → Int → Int → List Int → Option (Int)
 | 0,_,_,_,_=>none
 | k + 1,x1,x2,x7,x375000=>if x7 > 0 then (if 0 ≤ x2 then (if x2 < (x1.length:Int) then ((impl_Sign_args.f x375000 (rd x1 x2)).bind fun t376=>(impl_Sign_end.l0 k x1 (wrap64 (x2 + 1)) (wrap64 (x7 + (wrap64 (t376 - 1)))) x375000)) else (none)) else (none)) else (some x2)
def impl_Sign_end.f (k:Nat) (l0_0:List Int) (l1:List Int) (a2:Int):Option (Int):=impl_Sign_end.l0 k l1 a2 1 l0_0
theorem impl_Sign_end.mono_l:∀ k,(∀ y0 y1 y2 y3,LeO (impl_Sign_end.l0 k y0 y1 y2 y3) (impl_Sign_end.l0 (k + 1) y0 y1 y2 y3))
 | 0=>fun _ _ _ _ r h=>by simp [impl_Sign_end.l0] at h
 | k + 1=>by
  have ih0:=impl_Sign_end.mono_l k
  ·intro y0 y1 y2 y3
   unfold impl_Sign_end.l0
   exact mO
theorem impl_Sign_end.mono:∀ a0 a1 a2 k,LeO (impl_Sign_end.f k a0 a1 a2) (impl_Sign_end.f (k + 1) a0 a1 a2):=by
 intro a0 a1 a2 k
 have ih0:=impl_Sign_end.mono_l k
 unfold impl_Sign_end.f
 exact mO
def impl_Sign_end.T4:Bool × List (List Nat × List Nat):=(true,[([],[]),([],[]),([],[]),([],[]),([2,3],[2,3]),([4],[4]),([1,5],[1,5]),([6],[6]),([0,7],[0,7]),([8,6,0,1,2,3,4,5,6,7,8],[0,8])])
def impl_Sign_end.B4:List Nat:=[0,0,0,0,12,28,62,126,255,511]
theorem impl_Sign_end.tab4:rtab .any (opsOf Try.f110 4) = impl_Sign_end.T4:=by kernel_rfl
theorem impl_Sign_end.bits4:waitsOk impl_Sign_end.T4.2 impl_Sign_end.B4 = true:=by kernel_rfl
set_option maxHeartbeats 8000000 in
set_option maxRecDepth 100000 in
theorem impl_Sign_end.calls (k:Nat) (A0_0:Option Addr) (c0_0:Nat) (l0_0:List Int) (A1:Option Addr) (c1:Nat) (l1:List Int) (a2:Int) (r:Int) (w:World) (hr0_0:Kd.C (Kd.int .i64) w A0_0 l0_0.length l0_0) (hc0_0:l0_0.length ≤ c0_0) (hr1:Kd.C (Kd.int .i64) w A1 l1.length l1) (hc1:l1.length ≤ c1) (h:impl_Sign_end.f k l0_0 l1 a2 = some r) :
  Calls Try.prog 110 #[.agg #[.slice A0_0 l0_0.length c0_0],.slice A1 l1.length c1,.int .i64 a2] w fun e w'=>e = .returned (.int .i64 r) ∧ Below w.heap.size w w':=by
 have hu30:=Try.underlying30
 have HR0_0:=Aside0.mk hr0_0
 have HC0_0:=Aside0.mk hc0_0
 clear hr0_0 hc0_0
 have HR1:=Aside0.mk hr1
 have HC1:=Aside0.mk hc1
 clear hr1 hc1
 have HB:=Aside0.mk (Below.refl w.heap.size w)
 have H:(impl_Sign_end.l0 k l1 a2 1 l0_0) = some r:=h
 clear h
 have H':=Aside0.mk H
 clear H
 go_enter Try.func110,Try.ntmps110
 go_wp2_with (first|((with_reducible refine gate_dst (N:=3) rfl ?_);refine box_event ?hg (N:=3) ?hd (cs:=#[.slice A0_0 l0_0.length c0_0]) (t:=30) ?hr ?_;(case hd=>rfl);(case hg=>rfl);(case hr=>first|(go_simp;done)|(go_simp;rfl));intro gb374 hg w4 hbox hb;have BK374:=Aside0.mk (hbox);have GW374:=Aside0.mk ((hZ:w.heap.size ≤ gb374));have GE374:=Aside0.mk ((hZ:w.heap.size ≤ gb374));replace HB:=Aside0.mk (below_step bH hb);clear hb hbox hg))
 go_loopg [2,7] k (fun kq v2 v7 w'=>∃ (x2_1:Int) (x7_1:Int),v2 = .int .i64 x2_1 ∧ v7 = .int .i64 x7_1 ∧ Aside0 (impl_Sign_end.l0 kq l1 x2_1 x7_1 l0_0 = some r) ∧ Aside0 (kq ≤ k) ∧ Aside0 (w'.heap[gb374]? = some (.cells #[(.slice A0_0 l0_0.length c0_0)] 30 (0,0))) ∧ Aside0 (Below w.heap.size w w'))
 case atStart=>exact ⟨(a2),(1),Yb,Yb,H',⟨Nat.le_refl _⟩,⟨by (with_reducible repeat (first|refine blk_drewN ?_ _|refine blk_drew ?_|refine blk_alloc ?_ _));exact BK374.out⟩,⟨bH⟩⟩
 case round =>
  clear H'
  try clear c1
  try clear p2
  obtain ⟨x2_1,x7_1,rfl,rfl,HA,HK1,BK374,HB⟩:=hrel
  cases gk with
  | zero=>exact absurd HA.out (by simp [impl_Sign_end.l0])
  | succ k1 =>
   have H:=HA.out
   clear HA
   simp only [impl_Sign_end.l0] at H
   by_cases c5:x7_1 > 0
   ·rw [if_pos c5] at H
    have c5b0:decide (0 < x7_1) = true:=decide_eq_true c5
    clear c5
    by_cases c6:0 ≤ x2_1
    ·rw [if_pos c6] at H
     have c6b0:=decide_eq_true c6
     clear c6
     by_cases c7:x2_1 < (l1.length:Int)
     ·rw [if_pos c7] at H
      have c7b0:=decide_eq_true c7
      clear c7
      replace H:=Option.bind_eq_some_iff.mp H
      obtain ⟨t376,A80,H⟩:=H
      replace H:(impl_Sign_end.l0 k1 l1 (wrap64 (x2_1 + 1)) (wrap64 (x7_1 + (wrap64 (t376 - 1)))) l0_0) = some r:=H
      have A8:=Aside0.mk A80
      clear A80
      have H':=Aside0.mk H
      clear H
      try go_wp2
      have n0_:=Aside0.mk (blk_drew BK374.out)
      have n1_:=Aside0.mk (below_drew1 HB.out)
      clear BK374
      clear HB
      have BK374:=n0_
      have HB:=n1_
      clear n0_ n1_
      have p375:0 ≤ (x2_1:Int):=oD
      have q375:x2_1 < (l1.length:Int):=oD
      obtain ⟨ad375,e375,hx375_0⟩:=Kd.at_int HR1.out x2_1 p375 q375
      have hw375_0:=hx375_0
      cases e375
      replace hx375_0:=(HB.out.cell (World.block_lt_of_cell? w _ hx375_0)).trans hx375_0
      replace p375:=eq_true p375
      replace q375:=eq_true q375
      refine start_ (n:=10) (S:=fun w'=>w'.cell? ⟨gb374,0,none⟩ = some (.slice A0_0 l0_0.length c0_0) ∧ w'.cell? (ad375.add (x2_1).toNat) = some (.int .i64 (rd l1 x2_1))) (ds:=[]) #[false,false,false,false,false,false,false,false,false,false] (by kernel_rfl) rfl rfl ⟨(blk_cell BK374.out 0).trans rfl,((HB.out.cell (World.block_lt_of_cell? w _ hw375_0)).trans hw375_0)⟩ (fun hHeld=>?_);refine with_tabW impl_Sign_end.tab4 impl_Sign_end.bits4 (fun HT_ HW_=>?_)
      generalize wr.drew = w9 at BK374 HB hx375_0 hHeld ⊢
      refine pure_ (i:=0) (N:=some 12) (v:=?_) (a':=?_) #[true,false,false,false,false,false,false,false,false,false] rfl rfl (any_of HT_.out (by kernel_rfl)) (fun _ _ _ h=>h) (Or.inl ⟨by rfl,?_⟩) ?_ ?_
      rotate_left
      ·intro w'
       go_simp
       with_reducible rfl
      rotate_left
      ·simp only [Act.put,List.setIfInBounds_toArray,List.set_cons_zero,List.set_cons_succ,i64_w,i32_w]
       rfl
      refine pure_ (i:=2) (N:=some 14) (v:=?_) (a':=?_) #[true,false,true,false,false,false,false,false,false,false] rfl rfl (any_of HT_.out (by kernel_rfl)) (fun _ _ _ h=>h) (Or.inl ⟨by rfl,?_⟩) ?_ ?_
      rotate_left
      ·intro w'
       go_simp
       with_reducible rfl
      rotate_left
      ·simp only [Act.put,List.setIfInBounds_toArray,List.set_cons_zero,List.set_cons_succ,i64_w,i32_w]
       rfl
      refine pure_ (i:=3) (N:=some 15) (v:=?_) (a':=?_) #[true,false,true,true,false,false,false,false,false,false] rfl rfl (any_of HT_.out (by kernel_rfl)) (fun _ _ _ h=>h) (Or.inl ⟨by rfl,?_⟩) ?_ ?_
      rotate_left
      ·intro w'
       go_simp
       with_reducible rfl
      rotate_left
      ·simp only [Act.put,List.setIfInBounds_toArray,List.set_cons_zero,List.set_cons_succ,i64_w,i32_w]
       rfl
      refine pure_ (i:=4) (N:=some 16) (v:=?_) (a':=?_) #[true,false,true,true,true,false,false,false,false,false] rfl rfl (any_of HT_.out (by kernel_rfl)) (fun _ _ _ h=>h) (Or.inl ⟨by rfl,?_⟩) ?_ ?_
      rotate_left
      ·intro w'
       go_simp
       with_reducible rfl
      rotate_left
      ·simp only [Act.put,List.setIfInBounds_toArray,List.set_cons_zero,List.set_cons_succ,i64_w,i32_w]
       rfl
      refine take_ (i:=1) (N:=some 13) (v:=?_) (a':=?_) #[true,true,true,true,true,false,false,false,false,false] rfl rfl (take_ofW HT_.out HW_.out (by kernel_rfl)) (fun _ _ _ h=>h) (Or.inl ⟨by rfl,?_⟩) hHeld ?_ ?_
      rotate_left
      ·rintro w' ⟨s0,s1⟩
       go_simp
       with_reducible rfl
      rotate_left
      ·simp only [Act.put,List.setIfInBounds_toArray,List.set_cons_zero,List.set_cons_succ,i64_w,i32_w]
       rfl
      refine take_ (i:=5) (N:=some 17) (v:=?_) (a':=?_) #[true,true,true,true,true,true,false,false,false,false] rfl rfl (take_ofW HT_.out HW_.out (by kernel_rfl)) (fun _ _ _ h=>h) (Or.inl ⟨by rfl,?_⟩) hHeld ?_ ?_
      rotate_left
      ·rintro w' ⟨s0,s1⟩
       go_simp
       with_reducible rfl
      rotate_left
      ·simp only [Act.put,List.setIfInBounds_toArray,List.set_cons_zero,List.set_cons_succ,i64_w,i32_w]
       rfl
      refine one_ (i:=6) (N:=some 18) #[true,true,true,true,true,true,true,false,false,false] rfl rfl (one_of HT_.out (by kernel_rfl)) (by decide) (fun K hK=>?_)
      refine goes_ Try.func108 (by kernel_rfl) rfl #[.agg #[.slice A0_0 l0_0.length c0_0],.int .i64 (rd l1 x2_1)] (by rfl) rfl rfl Ya ?_
      with_reducible refine (impl_Sign_args.calls _ _ l0_0 (rd l1 x2_1) t376 _ ?side1 ?side2 A8.out).mono ?_
      (case side1=>exact sC HR0_0)
      (case side2=>exact HC0_0.out)
      rintro e w10 ⟨rfl,hb⟩
      refine ⟨_,rfl,?_⟩
      have n0_:=Aside0.mk (blk_below (bB BK374) hb)
      have n1_:=Aside0.mk (below_step bH hb)
      clear BK374
      clear HB
      have BK374:=n0_
      have HB:=n1_
      clear n0_ n1_
      (try clear hb)
      (try clear hb2)
      (try clear hk)
      (try clear hi)
      refine hK.out _ _ ⟨(blk_cell BK374.out 0).trans rfl,((HB.out.cell (World.block_lt_of_cell? w _ hw375_0)).trans hw375_0)⟩ (fun hHeld=>?_)
      clear hK K
      refine norm_ (a':=?_) ?_ ?_
      rotate_left
      ·show Act.put _ (some 18) _ = _
       simp only [Act.put,List.setIfInBounds_toArray,List.set_cons_zero,List.set_cons_succ,i64_w,i32_w]
       rfl
      refine pure_ (i:=7) (N:=some 19) (v:=?_) (a':=?_) #[true,true,true,true,true,true,true,true,false,false] rfl rfl (any_of HT_.out (by kernel_rfl)) (fun _ _ _ h=>h) (Or.inl ⟨by rfl,?_⟩) ?_ ?_
      rotate_left
      ·intro w'
       go_simp
       with_reducible rfl
      rotate_left
      ·simp only [Act.put,List.setIfInBounds_toArray,List.set_cons_zero,List.set_cons_succ,i64_w,i32_w]
       rfl
      refine pure_ (i:=8) (N:=some 20) (v:=?_) (a':=?_) #[true,true,true,true,true,true,true,true,true,false] rfl rfl (any_of HT_.out (by kernel_rfl)) (fun _ _ _ h=>h) (Or.inl ⟨by rfl,?_⟩) ?_ ?_
      rotate_left
      ·intro w'
       go_simp
       with_reducible rfl
      rotate_left
      ·simp only [Act.put,List.setIfInBounds_toArray,List.set_cons_zero,List.set_cons_succ,i64_w,i32_w]
       rfl
      refine pure_ (i:=9) (N:=some 7) (v:=?_) (a':=?_) #[true,true,true,true,true,true,true,true,true,true] rfl rfl (any_of HT_.out (by kernel_rfl)) (fun _ _ _ h=>h) (Or.inl ⟨by rfl,?_⟩) ?_ ?_
      rotate_left
      ·intro w'
       go_simp
       with_reducible rfl
      rotate_left
      ·simp only [Act.put,List.setIfInBounds_toArray,List.set_cons_zero,List.set_cons_succ,i64_w,i32_w]
       rfl
      refine done_ (done_of HT_.out (by kernel_rfl)) ?_
      try go_wp2
      go_roundg k1
      case measure=>have:=HK1.out;omega
      case rel=>exact ⟨(wrap64 (x2_1 + 1)),(wrap64 (x7_1 + (wrap64 (t376 - 1)))),Yb,Yb,H',⟨by have:=HK1.out;omega⟩,⟨by (with_reducible repeat (first|refine blk_drewN ?_ _|refine blk_drew ?_|refine blk_alloc ?_ _));exact BK374.out⟩,⟨bH⟩⟩
     ·rw [if_neg c7] at H
      exact absurd H (by simp)
    ·rw [if_neg c6] at H
     exact absurd H (by simp)
   ·rw [if_neg c5] at H
    have c5b0:decide (0 < x7_1) = false:=decide_eq_false c5
    clear c5
    obtain rfl:=Option.some.inj H
    go_wp2
    go_ret
    exact ⟨by first|rfl|(simp [errW_none,errW_some] <;> rfl)|(simp [*,errW_none,errW_some] <;> rfl),bH⟩

/-! ### impl_Sign_part: function 78 -/
def impl_Sign_part.f (k:Nat) (l0_0:List Int) (l1:List Int) (a2:Int):Option (List Int):=(impl_Sign_end.f k l0_0 l1 a2).bind fun t378=>(if 0 ≤ a2 then (if a2 ≤ t378 then (if t378 ≤ (l1.length:Int) then ((slices_Clone_int_int_83.f ((l1.take (t378:Int).toNat).drop (a2:Int).toNat)).bind fun t380=>(some t380)) else (none)) else (none)) else (none))
theorem impl_Sign_part.mono:∀ a0 a1 a2 k,LeO (impl_Sign_part.f k a0 a1 a2) (impl_Sign_part.f (k + 1) a0 a1 a2):=by
 intro a0 a1 a2 k
 unfold impl_Sign_part.f
 have m0:=@impl_Sign_end.mono
 exact mO
set_option maxHeartbeats 8000000 in
set_option maxRecDepth 100000 in
theorem impl_Sign_part.calls (k:Nat) (A0_0:Option Addr) (c0_0:Nat) (l0_0:List Int) (A1:Option Addr) (c1:Nat) (l1:List Int) (a2:Int) (r:List Int) (w:World) (hr0_0:Kd.C (Kd.int .i64) w A0_0 l0_0.length l0_0) (hc0_0:l0_0.length ≤ c0_0) (hr1:Kd.C (Kd.int .i64) w A1 l1.length l1) (hc1:l1.length ≤ c1) (h:impl_Sign_part.f k l0_0 l1 a2 = some r) :
  Calls Try.prog 78 #[.agg #[.slice A0_0 l0_0.length c0_0],.slice A1 l1.length c1,.int .i64 a2] w fun e w'=>∃ v0_:Value,e = .returned (v0_) ∧ Kd.R (Kd.int .i64) 3 w' w.heap.size (fun _=>True) v0_ r ∧ Below w.heap.size w w':=by
 have hu30:=Try.underlying30
 have HR0_0:=Aside0.mk hr0_0
 have HC0_0:=Aside0.mk hc0_0
 clear hr0_0 hc0_0
 have HR1:=Aside0.mk hr1
 have HC1:=Aside0.mk hc1
 clear hr1 hc1
 have HB:=Aside0.mk (Below.refl w.heap.size w)
 have H:((impl_Sign_end.f k l0_0 l1 a2).bind fun t378=>(if 0 ≤ a2 then (if a2 ≤ t378 then (if t378 ≤ (l1.length:Int) then ((slices_Clone_int_int_83.f ((l1.take (t378:Int).toNat).drop (a2:Int).toNat)).bind fun t380=>(some t380)) else (none)) else (none)) else (none))) = some r:=h
 clear h
 replace H:=Option.bind_eq_some_iff.mp H
 obtain ⟨t378,A40,H⟩:=H
 replace H:(if 0 ≤ a2 then (if a2 ≤ t378 then (if t378 ≤ (l1.length:Int) then ((slices_Clone_int_int_83.f ((l1.take (t378:Int).toNat).drop (a2:Int).toNat)).bind fun t380=>(some t380)) else (none)) else (none)) else (none)) = some r:=H
 have A4:=Aside0.mk A40
 clear A40
 by_cases c5:0 ≤ a2
 ·rw [if_pos c5] at H
  have c5b0:=eq_true c5
  have c5b1:=decide_eq_true c5
  clear c5
  by_cases c6:a2 ≤ t378
  ·rw [if_pos c6] at H
   have c6b0:=eq_true c6
   have c6b1:=decide_eq_true c6
   clear c6
   by_cases c7:t378 ≤ (l1.length:Int)
   ·rw [if_pos c7] at H
    have c7b0:=eq_true c7
    have c7b1:=decide_eq_true c7
    clear c7
    replace H:=Option.bind_eq_some_iff.mp H
    obtain ⟨t380,A80,H⟩:=H
    replace H:(some t380) = some r:=H
    have A8:=Aside0.mk A80
    clear A80
    obtain rfl:=Option.some.inj H
    go_enter Try.func78,Try.ntmps78
    go_wp2_with (first|((with_reducible refine gate_dst (N:=3) rfl ?_);refine box_event ?hg (N:=3) ?hd (cs:=#[.slice A0_0 l0_0.length c0_0]) (t:=30) ?hr ?_;(case hd=>rfl);(case hg=>rfl);(case hr=>first|(go_simp;done)|(go_simp;rfl));intro gb377 hg w9 hbox hb;have BK377:=Aside0.mk (hbox);have GW377:=Aside0.mk ((hZ:w.heap.size ≤ gb377));have GE377:=Aside0.mk ((hZ:w.heap.size ≤ gb377));replace HB:=Aside0.mk (below_step bH hb);clear hb hbox hg;have hcz10_0:w9.cell? ⟨gb377,0,none⟩ = some (.slice A0_0 l0_0.length c0_0):=(blk_cell BK377.out 0).trans rfl;have hfz10_0:=blk_frozen BK377.out 0)|((with_reducible refine gate_callee (f:=110) rfl ?_);refine goesL_ (some 12) rfl rfl Try.func110 (by kernel_rfl) rfl #[.agg #[.slice A0_0 l0_0.length c0_0],.slice A1 l1.length c1,.int .i64 a2] rfl Ya ?_;(with_reducible refine (impl_Sign_end.calls k _ _ l0_0 _ _ l1 a2 t378 _ ?side1 ?side2 ?side3 ?side4 A4.out).mono ?_);(case side1=>exact sC HR0_0);(case side2=>exact HC0_0.out);(case side3=>exact sC HR1);(case side4=>exact HC1.out);rintro e w11 ⟨rfl,hb⟩;refine ⟨_,rfl,?_⟩;replace BK377:=Aside0.mk (blk_below (bB BK377) hb);replace HB:=Aside0.mk (below_step bH hb);(try clear hb);(try clear hb2);(try clear hk);(try clear hi);obtain ⟨i012,hi012,_,hsz12,_⟩:=info_parts info3;obtain ⟨A12,hcut12,hA12,hC12⟩:=print_mid_of (P:=Try.prog) (Value.int .i64) 0 22 3 .i64 .i64 Try.underlying22 hi012 hsz12 A1 c1 l1 a2 t378 (oD) (by first|omega|exact oD) (oD) HC1.out;have HR379:=Aside0.mk (Kd.C_of_reads (h1:=fun _=>rfl) (hA12 _ (Kd.reads_of_C HR1.out)));have HC379:=Aside0.mk hC12;clear hA12 hC12 hi012 hsz12)|((with_reducible refine gate_callee (f:=83) rfl ?_);refine goesL_ (some 14) rfl rfl Try.func83 (by kernel_rfl) rfl #[.slice A12 ((l1.take (t378:Int).toNat).drop (a2:Int).toNat).length (c1 - a2.toNat)] rfl (by (try simp only [List.map_toArray,List.map_cons,List.map_nil]);first|done|(rw [show ((l1.take (t378:Int).toNat).drop (a2:Int).toNat).length = (t378.toNat - a2.toNat) from (by rw [List.length_drop,List.length_take];have h_:(t378:Int) ≤ (l1.length:Int):=oD;omega)] <;> rfl)|rfl|(simp only [List.length_drop,List.length_take];rfl)) ?_;(with_reducible refine (slices_Clone_int_int_83.calls _ _ ((l1.take (t378:Int).toNat).drop (a2:Int).toNat) t380 _ ?side1 ?side2 A8.out).mono ?_);(case side1=>exact sC HR379);(case side2=>exact HC379.out);rintro e w13 ⟨v381,rfl,ho0,hb⟩;refine ⟨_,rfl,?_⟩;have HO382:=Aside0.mk (Kd.R_lower ho0 (below_size bH));replace BK377:=Aside0.mk (blk_below (bB BK377) hb);replace HB:=Aside0.mk (below_step bH hb);(try clear hb);(try clear hb2);(try clear hk);(try clear hi);(try clear ho0)))
    go_ret
    exact ⟨_,by first|rfl|(simp [errW_none,errW_some] <;> rfl)|(simp [*,errW_none,errW_some] <;> rfl),rR HO382,bH⟩
   ·rw [if_neg c7] at H
    exact absurd H (by simp)
  ·rw [if_neg c6] at H
   exact absurd H (by simp)
 ·rw [if_neg c5] at H
  exact absurd H (by simp)

/-! ### impl_Lit_side: function 79 -/
def impl_Lit_side.f (a0_0:Bool) (l0_1:List Int) (l0_2:List Int) (a1:Int):Option (List Int × List Int):=if a1 = 0 then (some (l0_1,l0_2)) else (some (l0_2,l0_1))
set_option maxHeartbeats 8000000 in
set_option maxRecDepth 100000 in
theorem impl_Lit_side.calls (a0_0:Bool) (P0_1_:Nat → Prop) (u9000_:Value) (l0_1:List Int) (P0_2_:Nat → Prop) (u9001_:Value) (l0_2:List Int) (a1:Int) (r1:List Int) (r2:List Int) (w0 w:World) (hB:Below w0.heap.size w0 w) (ho0_1:Kd.R (Kd.int .i64) 3 w w0.heap.size P0_1_ u9000_ l0_1) (hp0_1_0_2:∀ k_,P0_1_ k_ → ¬ P0_2_ k_) (ho0_2:Kd.R (Kd.int .i64) 3 w w0.heap.size P0_2_ u9001_ l0_2) (hp0_2_0_1:∀ k_,P0_2_ k_ → ¬ P0_1_ k_) (h:impl_Lit_side.f a0_0 l0_1 l0_2 a1 = some (r1,r2)) :
  Calls Try.prog 79 #[.agg #[.bool a0_0,u9000_,u9001_],.int .i64 a1] w fun e w'=>∃ v0_ v1_:Value,e = .returned (.tuple #[v0_,v1_]) ∧ Kd.R (Kd.int .i64) 3 w' w0.heap.size (fun k_=>((P0_1_ k_ ∨ P0_2_ k_) ∨ w.heap.size ≤ k_) ∧ some k_ ≠ (v1_:Value).ownBlock) v0_ r1 ∧ Kd.R (Kd.int .i64) 3 w' w0.heap.size (fun k_=>((P0_1_ k_ ∨ P0_2_ k_) ∨ w.heap.size ≤ k_) ∧ some k_ ≠ (v0_:Value).ownBlock) v1_ r2 ∧ Below w0.heap.size w0 w' ∧ Kept w w' (fun k_=>P0_1_ k_ ∨ P0_2_ k_):=by
 have hu65:=Try.underlying65
 have HO0_1:=Aside0.mk (show Kd.R (Kd.int .i64) 3 w w0.heap.size (fun k_=>((P0_1_ k_ ∨ P0_2_ k_) ∨ w.heap.size ≤ k_) ∧ some k_ ≠ (u9001_:Value).ownBlock) u9000_ l0_1 from Kd.R_mono ho0_1 (fun k_ hk=>⟨(.inl (.inl hk)),fun e_=>hp0_1_0_2 k_ hk (ho0_2.1 k_ e_.symm)⟩))
 have HO0_2:=Aside0.mk (show Kd.R (Kd.int .i64) 3 w w0.heap.size (fun k_=>((P0_1_ k_ ∨ P0_2_ k_) ∨ w.heap.size ≤ k_) ∧ some k_ ≠ (u9000_:Value).ownBlock) u9001_ l0_2 from Kd.R_mono ho0_2 (fun k_ hk=>⟨(.inl (.inr hk)),fun e_=>hp0_2_0_1 k_ hk (ho0_1.1 k_ e_.symm)⟩))
 have HK:=Aside0.mk (Kept.refl w (fun k_=>P0_1_ k_ ∨ P0_2_ k_))
 have HW0:=Aside0.mk hB.size
 have HB:=Aside0.mk hB
 clear hB
 have H:(if a1 = 0 then (some (l0_1,l0_2)) else (some (l0_2,l0_1))) = some (r1,r2):=h
 clear h
 by_cases c3:a1 = 0
 ·rw [if_pos c3] at H
  have c3b0:(a1 == 0) = true:=beq_iff_eq.mpr c3
  have c3b1:(a1 != 0) = false:=bne_eq_false_iff_eq.mpr c3
  clear c3
  simp only [Option.some.injEq,Prod.mk.injEq] at H
  obtain ⟨rfl,rfl⟩:=H
  obtain ⟨Ao4,co4,eo4⟩:=Kd.R_slice HO0_1.out
  subst eo4
  obtain ⟨Ao5,co5,eo5⟩:=Kd.R_slice HO0_2.out
  subst eo5
  go_enter Try.func79,Try.ntmps79
  go_wp2_with (first|((with_reducible refine gate_dst (N:=2) rfl ?_);refine box_event ?hg (N:=2) ?hd (cs:=#[.bool a0_0,.slice Ao4 l0_1.length co4,.slice Ao5 l0_2.length co5]) (t:=65) ?hr ?_;(case hd=>rfl);(case hg=>rfl);(case hr=>first|(go_simp;done)|(go_simp;rfl));intro gb383 hg w6 hbox hb;replace HO0_1:=Aside0.mk (Kd.R_below (rR HO0_1) hb);replace HO0_2:=Aside0.mk (Kd.R_below (rR HO0_2) hb);have BK383:=Aside0.mk (hbox);have GW383:=Aside0.mk ((by rw [hg];exact Yd:w.heap.size ≤ gb383));replace HK:=Aside0.mk (Kept.below (S:=(fun k_=>P0_1_ k_ ∨ P0_2_ k_)) kH hb);have GE383:=Aside0.mk ((hZ:w0.heap.size ≤ gb383));replace HB:=Aside0.mk (below_step bH hb);clear hb hbox hg;have hcz7_0:w6.cell? ⟨gb383,0,none⟩ = some (.bool a0_0):=(blk_cell BK383.out 0).trans rfl;have hcz7_1:w6.cell? ⟨gb383,1,none⟩ = some (.slice Ao4 l0_1.length co4):=(blk_cell BK383.out 1).trans rfl;have hcz7_2:w6.cell? ⟨gb383,2,none⟩ = some (.slice Ao5 l0_2.length co5):=(blk_cell BK383.out 2).trans rfl;have hfz7_0:=blk_frozen BK383.out 0;have hfz7_1:=blk_frozen BK383.out 1;have hfz7_2:=blk_frozen BK383.out 2))
  repeat (go_quiet (first|((with_reducible refine gate_dst (N:=2) rfl ?_);refine box_event ?hg (N:=2) ?hd (cs:=#[.bool a0_0,.slice Ao4 l0_1.length co4,.slice Ao5 l0_2.length co5]) (t:=65) ?hr ?_;(case hd=>rfl);(case hg=>rfl);(case hr=>first|(go_simp;done)|(go_simp;rfl));intro gb383 hg w6 hbox hb;replace HO0_1:=Aside0.mk (Kd.R_below (rR HO0_1) hb);replace HO0_2:=Aside0.mk (Kd.R_below (rR HO0_2) hb);have BK383:=Aside0.mk (hbox);have GW383:=Aside0.mk ((by rw [hg];exact Yd:w.heap.size ≤ gb383));replace HK:=Aside0.mk (Kept.below (S:=(fun k_=>P0_1_ k_ ∨ P0_2_ k_)) kH hb);have GE383:=Aside0.mk ((hZ:w0.heap.size ≤ gb383));replace HB:=Aside0.mk (below_step bH hb);clear hb hbox hg;have hcz7_0:w6.cell? ⟨gb383,0,none⟩ = some (.bool a0_0):=(blk_cell BK383.out 0).trans rfl;have hcz7_1:w6.cell? ⟨gb383,1,none⟩ = some (.slice Ao4 l0_1.length co4):=(blk_cell BK383.out 1).trans rfl;have hcz7_2:w6.cell? ⟨gb383,2,none⟩ = some (.slice Ao5 l0_2.length co5):=(blk_cell BK383.out 2).trans rfl;have hfz7_0:=blk_frozen BK383.out 0;have hfz7_1:=blk_frozen BK383.out 1;have hfz7_2:=blk_frozen BK383.out 2));try go_wp2_with (first|((with_reducible refine gate_dst (N:=2) rfl ?_);refine box_event ?hg (N:=2) ?hd (cs:=#[.bool a0_0,.slice Ao4 l0_1.length co4,.slice Ao5 l0_2.length co5]) (t:=65) ?hr ?_;(case hd=>rfl);(case hg=>rfl);(case hr=>first|(go_simp;done)|(go_simp;rfl));intro gb383 hg w6 hbox hb;replace HO0_1:=Aside0.mk (Kd.R_below (rR HO0_1) hb);replace HO0_2:=Aside0.mk (Kd.R_below (rR HO0_2) hb);have BK383:=Aside0.mk (hbox);have GW383:=Aside0.mk ((by rw [hg];exact Yd:w.heap.size ≤ gb383));replace HK:=Aside0.mk (Kept.below (S:=(fun k_=>P0_1_ k_ ∨ P0_2_ k_)) kH hb);have GE383:=Aside0.mk ((hZ:w0.heap.size ≤ gb383));replace HB:=Aside0.mk (below_step bH hb);clear hb hbox hg;have hcz7_0:w6.cell? ⟨gb383,0,none⟩ = some (.bool a0_0):=(blk_cell BK383.out 0).trans rfl;have hcz7_1:w6.cell? ⟨gb383,1,none⟩ = some (.slice Ao4 l0_1.length co4):=(blk_cell BK383.out 1).trans rfl;have hcz7_2:w6.cell? ⟨gb383,2,none⟩ = some (.slice Ao5 l0_2.length co5):=(blk_cell BK383.out 2).trans rfl;have hfz7_0:=blk_frozen BK383.out 0;have hfz7_1:=blk_frozen BK383.out 1;have hfz7_2:=blk_frozen BK383.out 2)))
  go_ret2
  exact ⟨_,_,by first|rfl|(simp [errW_none,errW_some] <;> rfl)|(simp [*,errW_none,errW_some] <;> rfl),rR HO0_1,rR HO0_2,bH,by repeat (first|(with_reducible first|exact HK.out|apply Kept.alloc|apply Kept.drewN|apply Kept.drew|refine Kept.setCell ?_ (.inr GW383.out) _)|exact HK.out)⟩
 ·rw [if_neg c3] at H
  have c3b0:(a1 == 0) = false:=beq_eq_false_iff_ne.mpr c3
  have c3b1:(a1 != 0) = true:=bne_iff_ne.mpr c3
  simp only [Option.some.injEq,Prod.mk.injEq] at H
  obtain ⟨rfl,rfl⟩:=H
  obtain ⟨Ao8,co8,eo8⟩:=Kd.R_slice HO0_1.out
  subst eo8
  obtain ⟨Ao9,co9,eo9⟩:=Kd.R_slice HO0_2.out
  subst eo9
  go_enter Try.func79,Try.ntmps79
  go_wp2_with (first|((with_reducible refine gate_dst (N:=2) rfl ?_);refine box_event ?hg (N:=2) ?hd (cs:=#[.bool a0_0,.slice Ao8 l0_1.length co8,.slice Ao9 l0_2.length co9]) (t:=65) ?hr ?_;(case hd=>rfl);(case hg=>rfl);(case hr=>first|(go_simp;done)|(go_simp;rfl));intro gb383 hg w10 hbox hb;replace HO0_1:=Aside0.mk (Kd.R_below (rR HO0_1) hb);replace HO0_2:=Aside0.mk (Kd.R_below (rR HO0_2) hb);have BK383:=Aside0.mk (hbox);have GW383:=Aside0.mk ((by rw [hg];exact Yd:w.heap.size ≤ gb383));replace HK:=Aside0.mk (Kept.below (S:=(fun k_=>P0_1_ k_ ∨ P0_2_ k_)) kH hb);have GE383:=Aside0.mk ((hZ:w0.heap.size ≤ gb383));replace HB:=Aside0.mk (below_step bH hb);clear hb hbox hg;have hcz11_0:w10.cell? ⟨gb383,0,none⟩ = some (.bool a0_0):=(blk_cell BK383.out 0).trans rfl;have hcz11_1:w10.cell? ⟨gb383,1,none⟩ = some (.slice Ao8 l0_1.length co8):=(blk_cell BK383.out 1).trans rfl;have hcz11_2:w10.cell? ⟨gb383,2,none⟩ = some (.slice Ao9 l0_2.length co9):=(blk_cell BK383.out 2).trans rfl;have hfz11_0:=blk_frozen BK383.out 0;have hfz11_1:=blk_frozen BK383.out 1;have hfz11_2:=blk_frozen BK383.out 2))
  repeat (go_quiet (first|((with_reducible refine gate_dst (N:=2) rfl ?_);refine box_event ?hg (N:=2) ?hd (cs:=#[.bool a0_0,.slice Ao8 l0_1.length co8,.slice Ao9 l0_2.length co9]) (t:=65) ?hr ?_;(case hd=>rfl);(case hg=>rfl);(case hr=>first|(go_simp;done)|(go_simp;rfl));intro gb383 hg w10 hbox hb;replace HO0_1:=Aside0.mk (Kd.R_below (rR HO0_1) hb);replace HO0_2:=Aside0.mk (Kd.R_below (rR HO0_2) hb);have BK383:=Aside0.mk (hbox);have GW383:=Aside0.mk ((by rw [hg];exact Yd:w.heap.size ≤ gb383));replace HK:=Aside0.mk (Kept.below (S:=(fun k_=>P0_1_ k_ ∨ P0_2_ k_)) kH hb);have GE383:=Aside0.mk ((hZ:w0.heap.size ≤ gb383));replace HB:=Aside0.mk (below_step bH hb);clear hb hbox hg;have hcz11_0:w10.cell? ⟨gb383,0,none⟩ = some (.bool a0_0):=(blk_cell BK383.out 0).trans rfl;have hcz11_1:w10.cell? ⟨gb383,1,none⟩ = some (.slice Ao8 l0_1.length co8):=(blk_cell BK383.out 1).trans rfl;have hcz11_2:w10.cell? ⟨gb383,2,none⟩ = some (.slice Ao9 l0_2.length co9):=(blk_cell BK383.out 2).trans rfl;have hfz11_0:=blk_frozen BK383.out 0;have hfz11_1:=blk_frozen BK383.out 1;have hfz11_2:=blk_frozen BK383.out 2));try go_wp2_with (first|((with_reducible refine gate_dst (N:=2) rfl ?_);refine box_event ?hg (N:=2) ?hd (cs:=#[.bool a0_0,.slice Ao8 l0_1.length co8,.slice Ao9 l0_2.length co9]) (t:=65) ?hr ?_;(case hd=>rfl);(case hg=>rfl);(case hr=>first|(go_simp;done)|(go_simp;rfl));intro gb383 hg w10 hbox hb;replace HO0_1:=Aside0.mk (Kd.R_below (rR HO0_1) hb);replace HO0_2:=Aside0.mk (Kd.R_below (rR HO0_2) hb);have BK383:=Aside0.mk (hbox);have GW383:=Aside0.mk ((by rw [hg];exact Yd:w.heap.size ≤ gb383));replace HK:=Aside0.mk (Kept.below (S:=(fun k_=>P0_1_ k_ ∨ P0_2_ k_)) kH hb);have GE383:=Aside0.mk ((hZ:w0.heap.size ≤ gb383));replace HB:=Aside0.mk (below_step bH hb);clear hb hbox hg;have hcz11_0:w10.cell? ⟨gb383,0,none⟩ = some (.bool a0_0):=(blk_cell BK383.out 0).trans rfl;have hcz11_1:w10.cell? ⟨gb383,1,none⟩ = some (.slice Ao8 l0_1.length co8):=(blk_cell BK383.out 1).trans rfl;have hcz11_2:w10.cell? ⟨gb383,2,none⟩ = some (.slice Ao9 l0_2.length co9):=(blk_cell BK383.out 2).trans rfl;have hfz11_0:=blk_frozen BK383.out 0;have hfz11_1:=blk_frozen BK383.out 1;have hfz11_2:=blk_frozen BK383.out 2)))
  go_ret2
  exact ⟨_,_,by first|rfl|(simp [errW_none,errW_some] <;> rfl)|(simp [*,errW_none,errW_some] <;> rfl),rR HO0_2,rR HO0_1,bH,by repeat (first|(with_reducible first|exact HK.out|apply Kept.alloc|apply Kept.drewN|apply Kept.drew|refine Kept.setCell ?_ (.inr GW383.out) _)|exact HK.out)⟩

/-! ### slices_Equal_int_int: function 130 -/
def slices_Equal_int_int.l0:Nat → List Int → List Int → Int → Int → Option (Bool)
 | 0,_,_,_,_=>none
 | k + 1,x0,x1,x12,x13=>if x13 < x12 then (if 0 ≤ x13 then (if x13 < (x0.length:Int) then (if x13 < (x1.length:Int) then (if (rd x0 x13) = (rd x1 x13) then (slices_Equal_int_int.l0 k x0 x1 x12 (wrap64 (x13 + 1))) else (some false)) else (none)) else (none)) else (none)) else (some true)
def slices_Equal_int_int.f (k:Nat) (l0:List Int) (l1:List Int):Option (Bool):=if (l0.length:Int) = (l1.length:Int) then (slices_Equal_int_int.l0 k l0 l1 (l0.length:Int) 0) else (some false)
theorem slices_Equal_int_int.mono_l:∀ k,(∀ y0 y1 y2 y3,LeO (slices_Equal_int_int.l0 k y0 y1 y2 y3) (slices_Equal_int_int.l0 (k + 1) y0 y1 y2 y3))
 | 0=>fun _ _ _ _ r h=>by simp [slices_Equal_int_int.l0] at h
 | k + 1=>by
  have ih0:=slices_Equal_int_int.mono_l k
  ·intro y0 y1 y2 y3
   unfold slices_Equal_int_int.l0
   exact mO
theorem slices_Equal_int_int.mono:∀ a0 a1 k,LeO (slices_Equal_int_int.f k a0 a1) (slices_Equal_int_int.f (k + 1) a0 a1):=by
 intro a0 a1 k
 have ih0:=slices_Equal_int_int.mono_l k
 unfold slices_Equal_int_int.f
 exact mO
set_option maxHeartbeats 8000000 in
set_option maxRecDepth 100000 in
theorem slices_Equal_int_int.calls (k:Nat) (A0:Option Addr) (c0:Nat) (l0:List Int) (A1:Option Addr) (c1:Nat) (l1:List Int) (r:Bool) (w:World) (hr0:Kd.C (Kd.int .i64) w A0 l0.length l0) (hc0:l0.length ≤ c0) (hr1:Kd.C (Kd.int .i64) w A1 l1.length l1) (hc1:l1.length ≤ c1) (h:slices_Equal_int_int.f k l0 l1 = some r) :
  Calls Try.prog 130 #[.slice A0 l0.length c0,.slice A1 l1.length c1] w fun e w'=>e = .returned (.bool r) ∧ Drawn0 w w':=by
 have HR0:=Aside0.mk hr0
 have HC0:=Aside0.mk hc0
 clear hr0 hc0
 have HR1:=Aside0.mk hr1
 have HC1:=Aside0.mk hc1
 clear hr1 hc1
 have H:(if (l0.length:Int) = (l1.length:Int) then (slices_Equal_int_int.l0 k l0 l1 (l0.length:Int) 0) else (some false)) = some r:=h
 clear h
 by_cases c3:(l0.length:Int) = (l1.length:Int)
 ·rw [if_pos c3] at H
  have c3b0:((l0.length:Int) == (l1.length:Int)) = true:=beq_iff_eq.mpr c3
  have c3b1:((l0.length:Int) != (l1.length:Int)) = false:=bne_eq_false_iff_eq.mpr c3
  have c3b2:(l0.length == l1.length) = true:=by first|simpa using c3|(simp at c3 ⊢;omega)
  clear c3
  have H':=Aside0.mk H
  clear H
  go_enter Try.func130,Try.ntmps130
  go_wp2
  repeat (go_quiet (fail);try go_wp2)
  go_loopg [13] k (fun kq v13 w'=>∃ (x13_1:Int),v13 = .int .i64 x13_1 ∧ Aside0 (slices_Equal_int_int.l0 kq l0 l1 (l0.length:Int) x13_1 = some r) ∧ Aside0 (kq ≤ k) ∧ Drawn0 w w')
  case atStart=>exact ⟨(0),Yb,H',⟨Nat.le_refl _⟩,by repeat (first|exact Drawn0.refl _|apply Drawn0.step)⟩
  case round =>
   clear H'
   try clear c1
   try clear p2
   try clear c3
   try clear c3b0
   try clear c3b1
   try clear c3b2
   obtain ⟨x13_1,rfl,HA,HK1,⟨m1,rfl⟩⟩:=hrel
   cases gk with
   | zero=>exact absurd HA.out (by simp [slices_Equal_int_int.l0])
   | succ k1 =>
    have H:=HA.out
    clear HA
    simp only [slices_Equal_int_int.l0] at H
    by_cases c4:x13_1 < (l0.length:Int)
    ·rw [if_pos c4] at H
     have c4b0:=decide_eq_true c4
     clear c4
     by_cases c5:0 ≤ x13_1
     ·rw [if_pos c5] at H
      have c5b0:=decide_eq_true c5
      clear c5
      by_cases c6:x13_1 < (l0.length:Int)
      ·rw [if_pos c6] at H
       have c6b0:=decide_eq_true c6
       clear c6
       by_cases c7:x13_1 < (l1.length:Int)
       ·rw [if_pos c7] at H
        have c7b0:=decide_eq_true c7
        clear c7
        by_cases c8:(rd l0 x13_1) = (rd l1 x13_1)
        ·rw [if_pos c8] at H
         have c8b0:((rd l0 x13_1) == (rd l1 x13_1)) = true:=beq_iff_eq.mpr c8
         have c8b1:((rd l0 x13_1) != (rd l1 x13_1)) = false:=bne_eq_false_iff_eq.mpr c8
         clear c8
         have H':=Aside0.mk H
         clear H
         have p384:0 ≤ (x13_1:Int):=oD
         have q384:x13_1 < (l0.length:Int):=oD
         obtain ⟨ad384,e384,hx384_0⟩:=Kd.at_int HR0.out x13_1 p384 q384
         cases e384
         replace p384:=eq_true p384
         replace q384:=eq_true q384
         have p385:0 ≤ (x13_1:Int):=oD
         have q385:x13_1 < (l1.length:Int):=oD
         obtain ⟨ad385,e385,hx385_0⟩:=Kd.at_int HR1.out x13_1 p385 q385
         cases e385
         replace p385:=eq_true p385
         replace q385:=eq_true q385
         go_wp2
         repeat (go_quiet (fail);try go_wp2)
         go_roundg k1
         case measure=>have:=HK1.out;omega
         case rel=>exact ⟨(wrap64 (x13_1 + 1)),Yb,H',⟨by have:=HK1.out;omega⟩,by repeat (first|exact Drawn0.refl _|apply Drawn0.step)⟩
        ·rw [if_neg c8] at H
         have c8b0:((rd l0 x13_1) == (rd l1 x13_1)) = false:=beq_eq_false_iff_ne.mpr c8
         have c8b1:((rd l0 x13_1) != (rd l1 x13_1)) = true:=bne_iff_ne.mpr c8
         obtain rfl:=Option.some.inj H
         have p384:0 ≤ (x13_1:Int):=oD
         have q384:x13_1 < (l0.length:Int):=oD
         obtain ⟨ad384,e384,hx384_0⟩:=Kd.at_int HR0.out x13_1 p384 q384
         cases e384
         replace p384:=eq_true p384
         replace q384:=eq_true q384
         have p385:0 ≤ (x13_1:Int):=oD
         have q385:x13_1 < (l1.length:Int):=oD
         obtain ⟨ad385,e385,hx385_0⟩:=Kd.at_int HR1.out x13_1 p385 q385
         cases e385
         replace p385:=eq_true p385
         replace q385:=eq_true q385
         go_wp2
         repeat (go_quiet (fail);try go_wp2)
         go_ret
         exact ⟨by first|rfl|(simp;done)|(simp [*];done),by repeat (first|exact Drawn0.refl _|apply Drawn0.step)⟩
       ·rw [if_neg c7] at H
        exact absurd H (by simp)
      ·rw [if_neg c6] at H
       exact absurd H (by simp)
     ·rw [if_neg c5] at H
      exact absurd H (by simp)
    ·rw [if_neg c4] at H
     have c4b0:decide (x13_1 < (l0.length:Int)) = false:=decide_eq_false c4
     clear c4
     obtain rfl:=Option.some.inj H
     go_wp2
     repeat (go_quiet (fail);try go_wp2)
     go_ret
     exact ⟨by first|rfl|(simp;done)|(simp [*];done),by repeat (first|exact Drawn0.refl _|apply Drawn0.step)⟩
 ·rw [if_neg c3] at H
  have c3b0:((l0.length:Int) == (l1.length:Int)) = false:=beq_eq_false_iff_ne.mpr c3
  have c3b1:((l0.length:Int) != (l1.length:Int)) = true:=bne_iff_ne.mpr c3
  have c3b2:(l0.length == l1.length) = false:=by first|simpa using c3|(simp at c3 ⊢;omega)
  obtain rfl:=Option.some.inj H
  go_enter Try.func130,Try.ntmps130
  go_wp2
  repeat (go_quiet (fail);try go_wp2)
  go_ret
  exact ⟨by first|rfl|(simp;done)|(simp [*];done),by repeat (first|exact Drawn0.refl _|apply Drawn0.step)⟩

/-! ### impl_apply: function 112 -/
mutual
def impl_apply.l0:Nat → List (List Int) → List Int → List Int → Int → Int → Option (List Int × Bool)
 | 0,_,_,_,_,_=>none
 | k + 1,x0,x6,x9,x10,x11=>if x11 < x10 then (if 0 ≤ x11 then (if x11 < (x9.length:Int) then (if (rd x9 x11) < 0 then (if 0 ≤ (wrap64 ((-1) - (rd x9 x11))) then (if (wrap64 ((-1) - (rd x9 x11))) < (x0.length:Int) then (impl_apply.j1 k x0 x6 (rd x9 x11) x9 x10 x11 (decide (((rd_L2 x0 (wrap64 ((-1) - (rd x9 x11)))).length:Int) > 0))) else (none)) else (none)) else (impl_apply.j1 k x0 x6 (rd x9 x11) x9 x10 x11 false)) else (none)) else (none)) else (some (x6,true))
def impl_apply.j1:Nat → List (List Int) → List Int → Int → List Int → Int → Int → Bool → Option (List Int × Bool)
 | 0,_,_,_,_,_,_,_=>none
 | k + 1,x0,x6,x8,x9,x10,x11,x25=>if x25 = true then (if 0 ≤ (wrap64 ((-1) - x8)) then (if (wrap64 ((-1) - x8)) < (x0.length:Int) then (if x6.length + (rd_L2 x0 (wrap64 ((-1) - x8))).length < 17592186044416 then ((some (x6 ++ (rd_L2 x0 (wrap64 ((-1) - x8))):List Int)).bind fun y389=>(if (y389.length:Int) > 40 then (some (([]:List Int),false)) else (impl_apply.l0 k x0 y389 x9 x10 (wrap64 (x11 + 1))))) else (none)) else (none)) else (none)) else (if x6.length < 17592186044416 then ((some (x6 ++ [x8]:List Int)).bind fun y392=>(if (y392.length:Int) > 40 then (some (([]:List Int),false)) else (impl_apply.l0 k x0 y392 x9 x10 (wrap64 (x11 + 1))))) else (none))
end
def impl_apply.f (k:Nat) (l0:List (List Int)) (l1:List Int):Option (List Int × Bool):=impl_apply.l0 k l0 ([]:List Int) l1 (l1.length:Int) 0
theorem impl_apply.mono_l:∀ k,(∀ y0 y1 y2 y3 y4,LeO (impl_apply.l0 k y0 y1 y2 y3 y4) (impl_apply.l0 (k + 1) y0 y1 y2 y3 y4)) ∧ (∀ y0 y1 y2 y3 y4 y5 y6,LeO (impl_apply.j1 k y0 y1 y2 y3 y4 y5 y6) (impl_apply.j1 (k + 1) y0 y1 y2 y3 y4 y5 y6))
 | 0=>⟨fun _ _ _ _ _ r h=>by simp [impl_apply.l0] at h,fun _ _ _ _ _ _ _ r h=>by simp [impl_apply.j1] at h⟩
 | k + 1=>by
  obtain ⟨ih0,ih1⟩:=impl_apply.mono_l k
  refine ⟨?_,?_⟩
  ·intro y0 y1 y2 y3 y4
   unfold impl_apply.l0
   exact mO
  ·intro y0 y1 y2 y3 y4 y5 y6
   unfold impl_apply.j1
   exact mO
theorem impl_apply.mono:∀ a0 a1 k,LeO (impl_apply.f k a0 a1) (impl_apply.f (k + 1) a0 a1):=by
 intro a0 a1 k
 obtain ⟨ih0,ih1⟩:=impl_apply.mono_l k
 unfold impl_apply.f
 exact mO
set_option maxHeartbeats 8000000 in
set_option maxRecDepth 100000 in
theorem impl_apply.calls (k:Nat) (A0:Option Addr) (c0:Nat) (l0:List (List Int)) (A1:Option Addr) (c1:Nat) (l1:List Int) (r1:List Int) (r2:Bool) (w:World) (hr0:Kd.C (Kd.slice 3 (Kd.int .i64)) w A0 l0.length l0) (hc0:l0.length ≤ c0) (hr1:Kd.C (Kd.int .i64) w A1 l1.length l1) (hc1:l1.length ≤ c1) (h:impl_apply.f k l0 l1 = some (r1,r2)) :
  Calls Try.prog 112 #[.slice A0 l0.length c0,.slice A1 l1.length c1] w fun e w'=>∃ v0_:Value,e = .returned (.tuple #[v0_,.bool r2]) ∧ Kd.R (Kd.int .i64) 3 w' w.heap.size (fun _=>True) v0_ r1 ∧ Below w.heap.size w w':=by
 have HR0:=Aside0.mk hr0
 have HC0:=Aside0.mk hc0
 clear hr0 hc0
 have HR1:=Aside0.mk hr1
 have HC1:=Aside0.mk hc1
 clear hr1 hc1
 have HB:=Aside0.mk (Below.refl w.heap.size w)
 have H:(impl_apply.l0 k l0 ([]:List Int) l1 (l1.length:Int) 0) = some (r1,r2):=h
 clear h
 have H':=Aside0.mk H
 clear H
 go_enter Try.func112,Try.ntmps112
 go_wp2
 go_loopg [6,11] k (fun kq v6 v11 w'=>∃ (x6_1:List Int) (x11_1:Int),v11 = .int .i64 x11_1 ∧ Aside0 (impl_apply.l0 kq l0 x6_1 l1 (l1.length:Int) x11_1 = some (r1,r2)) ∧ Aside0 (kq ≤ k) ∧ Aside0 (Kd.R (Kd.int .i64) 3 w' w.heap.size (fun _=>True) v6 x6_1) ∧ Aside0 (Below w.heap.size w w'))
 case atStart=>exact ⟨(([]:List Int)),(0),Yb,H',⟨Nat.le_refl _⟩,⟨by first|exact Kd.R_nil _ _ _ _ _|exact Kd.N_nil _ _ _ _ _|exact Kd.V_nil _ _ _ _ _|exact Kd.Q_nil _ _ _ _ _|exact Kd.S_nil _ _ _ _ _⟩,⟨bH⟩⟩
 case round =>
  clear H'
  try clear c1
  try clear p2
  obtain ⟨x6_1,x11_1,rfl,HA,HK1,HO_6,HB⟩:=hrel
  cases gk with
  | zero=>exact absurd HA.out (by simp [impl_apply.l0])
  | succ k1 =>
   have H:=HA.out
   clear HA
   simp only [impl_apply.l0] at H
   by_cases c3:x11_1 < (l1.length:Int)
   ·rw [if_pos c3] at H
    have c3b0:=decide_eq_true c3
    clear c3
    by_cases c4:0 ≤ x11_1
    ·rw [if_pos c4] at H
     have c4b0:=decide_eq_true c4
     clear c4
     by_cases c5:x11_1 < (l1.length:Int)
     ·rw [if_pos c5] at H
      have c5b0:=decide_eq_true c5
      clear c5
      have HC6:=Aside0.mk H
      clear H
      have p386:0 ≤ (x11_1:Int):=oD
      have q386:x11_1 < (l1.length:Int):=oD
      obtain ⟨ad386,e386,hx386_0⟩:=Kd.at_int HR1.out x11_1 p386 q386
      cases e386
      replace hx386_0:=(HB.out.cell (World.block_lt_of_cell? w _ hx386_0)).trans hx386_0
      replace p386:=eq_true p386
      replace q386:=eq_true q386
      go_upto_region 5 with (fail)
      go_cut [25] (fun v25 wc=>∃ (kq:Nat) (x25_5:Bool),v25 = .bool x25_5 ∧ Aside0 (impl_apply.j1 kq l0 x6_1 (rd l1 x11_1) l1 (l1.length:Int) x11_1 x25_5 = some (r1,r2)) ∧ Aside0 (kq ≤ k1) ∧ Aside0 (Kd.R (Kd.int .i64) 3 wc w.heap.size (fun _=>True) u6 x6_1) ∧ Aside0 (Below w.heap.size w wc))
      case first =>
       have H:=HC6.out
       clear HC6
       by_cases c7:(rd l1 x11_1) < 0
       ·rw [if_pos c7] at H
        have c7b0:=decide_eq_true c7
        clear c7
        (first|rw [c7b0]|(simp only [i64_w,i32_w];rw [c7b0])|skip)
        obtain ⟨ji8,hji8⟩:∃ j_:Int,(wrap64 ((-1) - (rd l1 x11_1))) = j_:=⟨_,rfl⟩
        replace H:(if 0 ≤ (ji8) then (if (ji8) < (l0.length:Int) then (impl_apply.j1 k1 l0 x6_1 (rd l1 x11_1) l1 (l1.length:Int) x11_1 (decide (((rd_L2 l0 (ji8)).length:Int) > 0))) else (none)) else (none)) = some (r1,r2):=by first|(rw [hji8] at H;exact H)|(simp only [hji8] at H ⊢;exact H)
        have hji8w:(IntKind.i64.wrap ((-1) - (rd l1 x11_1))) = ji8:=(i64_w _).trans hji8
        by_cases c9:0 ≤ (ji8)
        ·rw [if_pos c9] at H
         have c9b0:=decide_eq_true c9
         clear c9
         by_cases c10:(ji8) < (l0.length:Int)
         ·rw [if_pos c10] at H
          have c10b0:=decide_eq_true c10
          clear c10
          have H':=Aside0.mk H
          clear H
          have p387:0 ≤ ((ji8):Int):=oD
          have q387:(ji8) < (l0.length:Int):=oD
          obtain ⟨ad387,A387_0,c387_0,e387,hx387_0,hl387_0,hi387_0⟩:=at_L2 HR0.out (ji8) p387 q387
          cases e387
          replace hx387_0:=(HB.out.cell (World.block_lt_of_cell? w _ hx387_0)).trans hx387_0
          have HR387_0:=Aside0.mk hi387_0
          have HC387_0:=Aside0.mk hl387_0
          clear hi387_0 hl387_0
          replace p387:=eq_true p387
          replace q387:=eq_true q387
          go_wp2
          go_meet
          case rel=>exact ⟨_,(decide (((rd_L2 l0 (ji8)).length:Int) > 0)),(by first|rfl|(simp;done)|(simp only [← hji8] <;> (first|rfl|simp))|(simp [*];done)),H',⟨by have:=HK1.out;first|omega|exact Nat.le_refl _⟩,⟨rR HO_6⟩,⟨bH⟩⟩
         ·rw [if_neg c10] at H
          exact absurd H (by simp)
        ·rw [if_neg c9] at H
         exact absurd H (by simp)
       ·rw [if_neg c7] at H
        have c7b0:decide ((rd l1 x11_1) < 0) = false:=decide_eq_false c7
        clear c7
        (first|rw [c7b0]|(simp only [i64_w,i32_w];rw [c7b0])|skip)
        have H':=Aside0.mk H
        clear H
        go_wp2
        go_meet
        case rel=>exact ⟨_,(false),Yb,H',⟨by have:=HK1.out;first|omega|exact Nat.le_refl _⟩,⟨rR HO_6⟩,⟨bH⟩⟩
      case rest =>
       clear HC6
       try clear c1
       try clear p2
       try clear c3
       try clear c3b0
       try clear p3
       try clear q3
       try clear hx3
       try clear c4
       try clear c4b0
       try clear c5
       try clear c5b0
       try clear p6
       try clear c7
       try clear c7b0
       try clear c9
       try clear c9b0
       try clear c10
       try clear c10b0
       try clear hx386_0
       try clear hx387_0
       try clear p2
       try clear p386
       try clear p387
       try clear q386
       try clear q387
       obtain ⟨kq,x25_5,rfl,HA,HJ5,HO_6,HB⟩:=hcut
       cases kq with
       | zero=>exact absurd HA.out (by simp [impl_apply.j1])
       | succ kj5 =>
        have H:=HA.out
        clear HA
        simp only [impl_apply.j1] at H
        by_cases c11:x25_5 = true
        ·subst c11
         have H1:(if 0 ≤ (wrap64 ((-1) - (rd l1 x11_1))) then (if (wrap64 ((-1) - (rd l1 x11_1))) < (l0.length:Int) then (if x6_1.length + (rd_L2 l0 (wrap64 ((-1) - (rd l1 x11_1)))).length < 17592186044416 then ((some (x6_1 ++ (rd_L2 l0 (wrap64 ((-1) - (rd l1 x11_1)))):List Int)).bind fun y389=>(if (y389.length:Int) > 40 then (some (([]:List Int),false)) else (impl_apply.l0 kj5 l0 y389 l1 (l1.length:Int) (wrap64 (x11_1 + 1))))) else (none)) else (none)) else (none)) = some (r1,r2):=by rw [if_pos rfl] at H;exact H
         clear H
         have H:=H1
         clear H1
         obtain ⟨ji12,hji12⟩:∃ j_:Int,(wrap64 ((-1) - (rd l1 x11_1))) = j_:=⟨_,rfl⟩
         replace H:(if 0 ≤ (ji12) then (if (ji12) < (l0.length:Int) then (if x6_1.length + (rd_L2 l0 (ji12)).length < 17592186044416 then ((some (x6_1 ++ (rd_L2 l0 (ji12)):List Int)).bind fun y389=>(if (y389.length:Int) > 40 then (some (([]:List Int),false)) else (impl_apply.l0 kj5 l0 y389 l1 (l1.length:Int) (wrap64 (x11_1 + 1))))) else (none)) else (none)) else (none)) = some (r1,r2):=by first|(rw [hji12] at H;exact H)|(simp only [hji12] at H ⊢;exact H)
         have hji12w:(IntKind.i64.wrap ((-1) - (rd l1 x11_1))) = ji12:=(i64_w _).trans hji12
         by_cases c13:0 ≤ (ji12)
         ·rw [if_pos c13] at H
          have c13b0:=decide_eq_true c13
          clear c13
          by_cases c14:(ji12) < (l0.length:Int)
          ·rw [if_pos c14] at H
           have c14b0:=decide_eq_true c14
           clear c14
           by_cases c15:x6_1.length + (rd_L2 l0 (ji12)).length < 17592186044416
           ·rw [if_pos c15] at H
            have LMc15:=Aside0.mk c15
            clear c15
            obtain ⟨y389,hy389⟩:∃ y_:List Int,y_ = (x6_1 ++ (rd_L2 l0 (ji12))):=⟨_,rfl⟩
            replace H:(if (y389.length:Int) > 40 then (some (([]:List Int),false)) else (impl_apply.l0 kj5 l0 y389 l1 (l1.length:Int) (wrap64 (x11_1 + 1)))) = some (r1,r2):=by first|(rw [hy389];with_reducible exact H)|(have H2_:=(Option.bind_some _ _).symm.trans H;rw [hy389];with_reducible exact H2_)|(have H2_:=(Option.bind_some _ _).symm.trans H;with_reducible exact H2_)|with_reducible exact H|(rw [hy389];exact H)|exact H
            have Ny389:=Aside0.mk hy389
            clear hy389
            by_cases c16:(y389.length:Int) > 40
            ·rw [if_pos c16] at H
             have c16b0:decide (40 < (y389.length:Int)) = true:=decide_eq_true c16
             have c16b1:decide (40 < y389.length) = true:=decide_eq_true (by omega)
             clear c16
             simp only [Option.some.injEq,Prod.mk.injEq] at H
             obtain ⟨rfl,rfl⟩:=H
             have p388:0 ≤ ((ji12):Int):=oD
             have q388:(ji12) < (l0.length:Int):=oD
             obtain ⟨ad388,A388_0,c388_0,e388,hx388_0,hl388_0,hi388_0⟩:=at_L2 HR0.out (ji12) p388 q388
             cases e388
             replace hx388_0:=(HB.out.cell (World.block_lt_of_cell? w _ hx388_0)).trans hx388_0
             have HR388_0:=Aside0.mk hi388_0
             have HC388_0:=Aside0.mk hl388_0
             clear hi388_0 hl388_0
             replace p388:=eq_true p388
             replace q388:=eq_true q388
             go_wp2_with (first|((with_reducible refine gate_builtin (b:=.append) (xs:=#[.tmp 26,.tmp 31]) rfl ?_);(try (refine gate_guard (by rfl) ?_;dsimp only));at_builtin;refine Kd.R_append_rows (Kd.int .i64) (w0:=w) w.heap.size rfl (.tmp 26) (.tmp 31) 22 3 (.int .i64 0) 8 rfl Try.underlying22 info3 rfl (by decide) (by first|decide|omega) u6 x6_1 (rd_L2 l0 (ji12)) _ _ _ (fun _=>True) (fun _=>False) rfl rfl ?aO ?aR (fun _ _ h=>h) (fun _ h=>h.elim) ?aF ?aB ?aS ?aL ?_;(case aR=>exact sC HR388_0);(case aB=>exact bH);(case aF=>exact (fun _ _=>trivial));(case aO=>exact (rR HO_6));(case aS=>exact (below_size bH));(case aL=>have:=LMc15.out;omega);intro v390 w17 ho hb hg hat;rw [← Ny389.out] at ho;have n0_:=Aside0.mk (hb);have n1_:=Aside0.mk (ho);clear HB;clear HO_6;have HB:=n0_;have HO391:=n1_;clear n0_ n1_;clear ho hb hg hat;obtain ⟨Ao18,co18,eo18⟩:=Kd.R_slice HO391.out;subst eo18))
             go_ret2
             exact ⟨_,by first|rfl|(simp [errW_none,errW_some] <;> rfl)|(simp only [← hji12];first|rfl|(simp [errW_none,errW_some] <;> rfl))|(simp [*,errW_none,errW_some] <;> rfl),by first|exact Kd.R_nil _ _ _ _ _|exact Kd.N_nil _ _ _ _ _|exact Kd.V_nil _ _ _ _ _|exact Kd.Q_nil _ _ _ _ _|exact Kd.S_nil _ _ _ _ _,bH⟩
            ·rw [if_neg c16] at H
             have c16b0:decide (40 < (y389.length:Int)) = false:=decide_eq_false c16
             have c16b1:decide (40 < y389.length) = false:=decide_eq_false (by omega)
             clear c16
             have H':=Aside0.mk H
             clear H
             have p388:0 ≤ ((ji12):Int):=oD
             have q388:(ji12) < (l0.length:Int):=oD
             obtain ⟨ad388,A388_0,c388_0,e388,hx388_0,hl388_0,hi388_0⟩:=at_L2 HR0.out (ji12) p388 q388
             cases e388
             replace hx388_0:=(HB.out.cell (World.block_lt_of_cell? w _ hx388_0)).trans hx388_0
             have HR388_0:=Aside0.mk hi388_0
             have HC388_0:=Aside0.mk hl388_0
             clear hi388_0 hl388_0
             replace p388:=eq_true p388
             replace q388:=eq_true q388
             go_wp2_with (first|((with_reducible refine gate_builtin (b:=.append) (xs:=#[.tmp 26,.tmp 31]) rfl ?_);(try (refine gate_guard (by rfl) ?_;dsimp only));at_builtin;refine Kd.R_append_rows (Kd.int .i64) (w0:=w) w.heap.size rfl (.tmp 26) (.tmp 31) 22 3 (.int .i64 0) 8 rfl Try.underlying22 info3 rfl (by decide) (by first|decide|omega) u6 x6_1 (rd_L2 l0 (ji12)) _ _ _ (fun _=>True) (fun _=>False) rfl rfl ?aO ?aR (fun _ _ h=>h) (fun _ h=>h.elim) ?aF ?aB ?aS ?aL ?_;(case aR=>exact sC HR388_0);(case aB=>exact bH);(case aF=>exact (fun _ _=>trivial));(case aO=>exact (rR HO_6));(case aS=>exact (below_size bH));(case aL=>have:=LMc15.out;omega);intro v390 w19 ho hb hg hat;rw [← Ny389.out] at ho;have n0_:=Aside0.mk (hb);have n1_:=Aside0.mk (ho);clear HB;clear HO_6;have HB:=n0_;have HO391:=n1_;clear n0_ n1_;clear ho hb hg hat;obtain ⟨Ao20,co20,eo20⟩:=Kd.R_slice HO391.out;subst eo20))
             go_roundg kj5
             case measure=>have:=HK1.out;have:=HJ5.out;omega
             case rel=>exact ⟨(y389),(wrap64 (x11_1 + 1)),Yb,H',⟨by have:=HK1.out;have:=HJ5.out;omega⟩,⟨rR HO391⟩,⟨bH⟩⟩
           ·rw [if_neg c15] at H
            exact absurd H (by simp)
          ·rw [if_neg c14] at H
           exact absurd H (by simp)
         ·rw [if_neg c13] at H
          exact absurd H (by simp)
        ·replace c11:=Bool.eq_false_iff.mpr c11
         subst c11
         have H1:(if x6_1.length < 17592186044416 then ((some (x6_1 ++ [(rd l1 x11_1)]:List Int)).bind fun y392=>(if (y392.length:Int) > 40 then (some (([]:List Int),false)) else (impl_apply.l0 kj5 l0 y392 l1 (l1.length:Int) (wrap64 (x11_1 + 1))))) else (none)) = some (r1,r2):=by rw [if_neg (show ¬ (false = true) by decide)] at H;exact H
         clear H
         have H:=H1
         clear H1
         by_cases c21:x6_1.length < 17592186044416
         ·rw [if_pos c21] at H
          have LMc21:=Aside0.mk c21
          clear c21
          obtain ⟨y392,hy392⟩:∃ y_:List Int,y_ = (x6_1 ++ [(rd l1 x11_1)]):=⟨_,rfl⟩
          replace H:(if (y392.length:Int) > 40 then (some (([]:List Int),false)) else (impl_apply.l0 kj5 l0 y392 l1 (l1.length:Int) (wrap64 (x11_1 + 1)))) = some (r1,r2):=by first|(rw [hy392];with_reducible exact H)|(have H2_:=(Option.bind_some _ _).symm.trans H;rw [hy392];with_reducible exact H2_)|(have H2_:=(Option.bind_some _ _).symm.trans H;with_reducible exact H2_)|with_reducible exact H|(rw [hy392];exact H)|exact H
          have Ny392:=Aside0.mk hy392
          clear hy392
          by_cases c22:(y392.length:Int) > 40
          ·rw [if_pos c22] at H
           have c22b0:decide (40 < (y392.length:Int)) = true:=decide_eq_true c22
           have c22b1:decide (40 < y392.length) = true:=decide_eq_true (by omega)
           clear c22
           simp only [Option.some.injEq,Prod.mk.injEq] at H
           obtain ⟨rfl,rfl⟩:=H
           go_wp2_with (first|((with_reducible refine gate_builtin (b:=.append) (xs:=#[.tmp 33,.tmp 35]) rfl ?_);(try (refine gate_guard (by rfl) ?_;dsimp only));at_builtin;refine Kd.R_append (Kd.int .i64) (w0:=w) w.heap.size rfl (.tmp 33) (.tmp 35) 22 3 (.int .i64 0) 8 rfl Try.underlying22 info3 rfl (by decide) (by first|decide|omega) u6 x6_1 (rd l1 x11_1) [.int .i64 (rd l1 x11_1)] (fun _=>True) (fun _=>False) rfl rfl ?aP (fun _ hk=>hk.elim) ?aF ?aO ?aB ?aS ?aL ?_;(case aP=>exact rfl);(case aB=>exact bH);(case aF=>exact (fun _ _=>trivial));(case aO=>exact (rR HO_6));(case aS=>exact (below_size bH));(case aL=>have:=LMc21.out;omega);intro v393 w23 ho hb hg hat;rw [← Ny392.out] at ho;have n0_:=Aside0.mk (hb);have n1_:=Aside0.mk (ho);clear HB;clear HO_6;have HB:=n0_;have HO394:=n1_;clear n0_ n1_;clear ho hb hg hat;obtain ⟨Ao24,co24,eo24⟩:=Kd.R_slice HO394.out;subst eo24))
           go_ret2
           exact ⟨_,by first|rfl|(simp [errW_none,errW_some] <;> rfl)|(simp [*,errW_none,errW_some] <;> rfl),by first|exact Kd.R_nil _ _ _ _ _|exact Kd.N_nil _ _ _ _ _|exact Kd.V_nil _ _ _ _ _|exact Kd.Q_nil _ _ _ _ _|exact Kd.S_nil _ _ _ _ _,bH⟩
          ·rw [if_neg c22] at H
           have c22b0:decide (40 < (y392.length:Int)) = false:=decide_eq_false c22
           have c22b1:decide (40 < y392.length) = false:=decide_eq_false (by omega)
           clear c22
           have H':=Aside0.mk H
           clear H
           go_wp2_with (first|((with_reducible refine gate_builtin (b:=.append) (xs:=#[.tmp 33,.tmp 35]) rfl ?_);(try (refine gate_guard (by rfl) ?_;dsimp only));at_builtin;refine Kd.R_append (Kd.int .i64) (w0:=w) w.heap.size rfl (.tmp 33) (.tmp 35) 22 3 (.int .i64 0) 8 rfl Try.underlying22 info3 rfl (by decide) (by first|decide|omega) u6 x6_1 (rd l1 x11_1) [.int .i64 (rd l1 x11_1)] (fun _=>True) (fun _=>False) rfl rfl ?aP (fun _ hk=>hk.elim) ?aF ?aO ?aB ?aS ?aL ?_;(case aP=>exact rfl);(case aB=>exact bH);(case aF=>exact (fun _ _=>trivial));(case aO=>exact (rR HO_6));(case aS=>exact (below_size bH));(case aL=>have:=LMc21.out;omega);intro v393 w25 ho hb hg hat;rw [← Ny392.out] at ho;have n0_:=Aside0.mk (hb);have n1_:=Aside0.mk (ho);clear HB;clear HO_6;have HB:=n0_;have HO394:=n1_;clear n0_ n1_;clear ho hb hg hat;obtain ⟨Ao26,co26,eo26⟩:=Kd.R_slice HO394.out;subst eo26))
           go_roundg kj5
           case measure=>have:=HK1.out;have:=HJ5.out;omega
           case rel=>exact ⟨(y392),(wrap64 (x11_1 + 1)),Yb,H',⟨by have:=HK1.out;have:=HJ5.out;omega⟩,⟨rR HO394⟩,⟨bH⟩⟩
         ·rw [if_neg c21] at H
          exact absurd H (by simp)
     ·rw [if_neg c5] at H
      exact absurd H (by simp)
    ·rw [if_neg c4] at H
     exact absurd H (by simp)
   ·rw [if_neg c3] at H
    have c3b0:decide (x11_1 < (l1.length:Int)) = false:=decide_eq_false c3
    clear c3
    simp only [Option.some.injEq,Prod.mk.injEq] at H
    obtain ⟨rfl,rfl⟩:=H
    go_wp2
    go_ret2
    exact ⟨_,by first|rfl|(simp [errW_none,errW_some] <;> rfl)|(simp [*,errW_none,errW_some] <;> rfl),rR HO_6,bH⟩

/-! ### impl_isItself: function 131 -/
def impl_isItself.f (l0:List Int) (a1:Int):Option (Bool):=if (l0.length:Int) = 1 then (if 0 < (l0.length:Int) then (some ((rd l0 0) == (wrap64 ((-1) - a1)))) else (none)) else (some false)
set_option maxHeartbeats 8000000 in
set_option maxRecDepth 100000 in
theorem impl_isItself.calls (A0:Option Addr) (c0:Nat) (l0:List Int) (a1:Int) (r:Bool) (w:World) (hr0:Kd.C (Kd.int .i64) w A0 l0.length l0) (hc0:l0.length ≤ c0) (h:impl_isItself.f l0 a1 = some r) :
  Calls Try.prog 131 #[.slice A0 l0.length c0,.int .i64 a1] w fun e w'=>e = .returned (.bool r) ∧ Drawn0 w w':=by
 have HR0:=Aside0.mk hr0
 have HC0:=Aside0.mk hc0
 clear hr0 hc0
 have H:(if (l0.length:Int) = 1 then (if 0 < (l0.length:Int) then (some ((rd l0 0) == (wrap64 ((-1) - a1)))) else (none)) else (some false)) = some r:=h
 clear h
 by_cases c3:(l0.length:Int) = 1
 ·rw [if_pos c3] at H
  have c3b0:((l0.length:Int) == 1) = true:=beq_iff_eq.mpr c3
  have c3b1:((l0.length:Int) != 1) = false:=bne_eq_false_iff_eq.mpr c3
  clear c3
  by_cases c4:0 < (l0.length:Int)
  ·rw [if_pos c4] at H
   have c4b0:=decide_eq_true c4
   have c4b1:decide (0 < l0.length) = true:=decide_eq_true (by omega)
   clear c4
   obtain rfl:=Option.some.inj H
   have p395:0 ≤ (0:Int):=(by omega)
   have q395:0 < (l0.length:Int):=oD
   obtain ⟨ad395,e395,hx395_0⟩:=Kd.at_int HR0.out 0 p395 q395
   cases e395
   have qi395:(0 < l0.length) = True:=eq_true (by omega)
   (try rw [show ((0:Int)).toNat = 0 from rfl] at hx395_0)
   (try rw [Addr.add_zero'] at hx395_0)
   replace p395:=eq_true p395
   replace q395:=eq_true q395
   go_enter Try.func131,Try.ntmps131
   go_wp2
   go_ret
   exact ⟨by first|rfl|(simp;done)|(simp [*];done),by repeat (first|exact Drawn0.refl _|apply Drawn0.step)⟩
  ·rw [if_neg c4] at H
   exact absurd H (by simp)
 ·rw [if_neg c3] at H
  have c3b0:((l0.length:Int) == 1) = false:=beq_eq_false_iff_ne.mpr c3
  have c3b1:((l0.length:Int) != 1) = true:=bne_iff_ne.mpr c3
  obtain rfl:=Option.some.inj H
  go_enter Try.func131,Try.ntmps131
  go_wp2
  go_ret
  exact ⟨by first|rfl|(simp;done)|(simp [*];done),by repeat (first|exact Drawn0.refl _|apply Drawn0.step)⟩

end Go.Proofs.Ytlgnanbnicmdaab.QFnExactNormalClause
